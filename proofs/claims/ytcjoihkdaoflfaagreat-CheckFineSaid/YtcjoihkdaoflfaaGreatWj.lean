/- Lists of numbers: is one in it; are two alike; a set. -/
import Derived.Test.YtcjoihkdaoflfaaGreatWi
set_option linter.all false
set_option maxRecDepth 20000
namespace Go.Zz
open Go

variable {laid : Laid}

def u64E : Enc Nat 1 := ⟨fun n => [.int .u64 n], fun _ => rfl⟩
@[simp] theorem u64E_cells (n : Nat) : u64E.cells n = [.int .u64 n] := rfl

theorem Leaf_spec (hl : Bare laid) {n : Nat} (hn : n < 1000000) {Q : Post} {s : St} (hq : Q (.int .u64 (2 * n : Nat)) s) : CC laid 40 [.int .u64 n] Q s := by
  refine calls_body (hl 40 (by decide)) ?_
  rw [f40xeq, f40xS]
  simp -implicitDefEqProofs (disch := first | omega | (simp -implicitDefEqProofs <;> omega) | fail) [wrap_i64, wrap_u64, wrap_u8, binV_shr, binV_shl, binV_rem, binV_quo, Int.fdiv_eq_ediv_of_nonneg, Int.tdiv_eq_ediv_of_nonneg, Int.tmod_eq_emod_of_nonneg, callG_body, idxAddr_arr, idxAddr_slc, St.alloc_old, St.alloc_at, St.put_other, St.alloc_put_old, St.alloc_put_new]
  simpa using hq
theorem Token_spec (hl : Bare laid) {n : Nat} (hn : n < 1000000) {Q : Post} {s : St} (hq : Q (.int .u64 (2 * n + 1 : Nat)) s) : CC laid 41 [.int .u64 n] Q s := by
  refine calls_body (hl 41 (by decide)) ?_
  rw [f41xeq, f41xS]
  simp -implicitDefEqProofs (disch := first | omega | (simp -implicitDefEqProofs <;> omega) | fail) [wrap_i64, wrap_u64, wrap_u8, binV_shr, binV_shl, binV_rem, binV_quo, Int.fdiv_eq_ediv_of_nonneg, Int.tdiv_eq_ediv_of_nonneg, Int.tmod_eq_emod_of_nonneg, callG_body, idxAddr_arr, idxAddr_slc, St.alloc_old, St.alloc_at, St.put_other, St.alloc_put_old, St.alloc_put_new]
  simpa using hq

/-- Nums: are two lists alike? -/
theorem Nums_spec (hl : Bare laid) {v u : Value} {ns ms : List Nat} {Q : Post} {s : St} (hv : u64E.Sl s v ns) (hu : u64E.Sl s u ms) (hlen : ns.length < 1000000) (h : Q (.bool (decide (ns = ms))) s) : CC laid 11 [v, u] Q s := by
  refine calls_body (hl 11 (by decide)) ?_
  rw [f11xeq, f11xS]
  have hvl := hv.len (P := P) (t := 43) (s' := s) y_P_underlying_43
  have hul := hu.len (P := P) (t := 43) (s' := s) y_P_underlying_43
  simp -implicitDefEqProofs (disch := first | omega | (simp -implicitDefEqProofs <;> omega) | fail) [wrap_i64, wrap_u64, wrap_u8, binV_shr, binV_shl, binV_rem, binV_quo, Int.fdiv_eq_ediv_of_nonneg, Int.tdiv_eq_ediv_of_nonneg, Int.tmod_eq_emod_of_nonneg, callG_body, idxAddr_arr, idxAddr_slc, St.alloc_old, St.alloc_at, St.put_other, St.alloc_put_old, St.alloc_put_new, hvl, hul]
  by_cases hle : ns.length = ms.length
  · simp -implicitDefEqProofs (disch := first | omega | (simp -implicitDefEqProofs <;> omega) | fail) [wrap_i64, wrap_u64, wrap_u8, binV_shr, binV_shl, binV_rem, binV_quo, Int.fdiv_eq_ediv_of_nonneg, Int.tdiv_eq_ediv_of_nonneg, Int.tmod_eq_emod_of_nonneg, callG_body, idxAddr_arr, idxAddr_slc, St.alloc_old, St.alloc_at, St.put_other, St.alloc_put_old, St.alloc_put_new, hle, f11xJ6]
    refine f11xloop0 fun I hI => ?_
    have key : ∀ k i : Nat, i + k = ns.length → ns.take i = ms.take i → I v u (.bool false) (.int .i64 i) s := by
      intro k
      induction k with
      | zero =>
        intro i hi ht
        refine hI _ _ _ _ _ ?_
        have hnl : ¬ i < ns.length := by omega
        simp -implicitDefEqProofs (disch := first | omega | (simp -implicitDefEqProofs <;> omega) | fail) [wrap_i64, wrap_u64, wrap_u8, binV_shr, binV_shl, binV_rem, binV_quo, Int.fdiv_eq_ediv_of_nonneg, Int.tdiv_eq_ediv_of_nonneg, Int.tmod_eq_emod_of_nonneg, callG_body, idxAddr_arr, idxAddr_slc, St.alloc_old, St.alloc_at, St.put_other, St.alloc_put_old, St.alloc_put_new, f11xB0, hvl, hnl]
        rw [f11xE0x0xeq]
        simp -implicitDefEqProofs (disch := first | omega | (simp -implicitDefEqProofs <;> omega) | fail) [wrap_i64, wrap_u64, wrap_u8, binV_shr, binV_shl, binV_rem, binV_quo, Int.fdiv_eq_ediv_of_nonneg, Int.tdiv_eq_ediv_of_nonneg, Int.tmod_eq_emod_of_nonneg, callG_body, idxAddr_arr, idxAddr_slc, St.alloc_old, St.alloc_at, St.put_other, St.alloc_put_old, St.alloc_put_new, f11xE0x0, f11xJ3]
        rw [List.take_of_length_le (by omega), List.take_of_length_le (by omega)] at ht
        rwa [decide_eq_true ht] at h
      | succ k ih =>
        intro i hi ht
        refine hI _ _ _ _ _ ?_
        have hlt : i < ns.length := by omega
        have hlt' : i < ms.length := by omega
        obtain ⟨b, o, cc, rfl, hA⟩ := hv.ne (by intro e; simp [e] at hlt)
        obtain ⟨b2, o2, cc2, rfl, hA2⟩ := hu.ne (by intro e; simp [e] at hlt')
        simp -implicitDefEqProofs (disch := first | omega | (simp -implicitDefEqProofs <;> omega) | fail) [wrap_i64, wrap_u64, wrap_u8, binV_shr, binV_shl, binV_rem, binV_quo, Int.fdiv_eq_ediv_of_nonneg, Int.tdiv_eq_ediv_of_nonneg, Int.tmod_eq_emod_of_nonneg, callG_body, idxAddr_arr, idxAddr_slc, St.alloc_old, St.alloc_at, St.put_other, St.alloc_put_old, St.alloc_put_new, f11xB0, hvl, hlt, hlt', f11xJ2, hA.one hlt, hA2.one hlt']
        by_cases he : (ns[i] : Int) = ms[i]
        · simp -implicitDefEqProofs (disch := first | omega | (simp -implicitDefEqProofs <;> omega) | fail) [wrap_i64, wrap_u64, wrap_u8, binV_shr, binV_shl, binV_rem, binV_quo, Int.fdiv_eq_ediv_of_nonneg, Int.tdiv_eq_ediv_of_nonneg, Int.tmod_eq_emod_of_nonneg, callG_body, idxAddr_arr, idxAddr_slc, St.alloc_old, St.alloc_at, St.put_other, St.alloc_put_old, St.alloc_put_new, he, f11xJ1]
          refine ih (i + 1) (by omega) ?_
          have he' : ns[i] = ms[i] := by omega
          rw [← List.take_append_getElem hlt, ← List.take_append_getElem hlt', ht, he']
        · simp -implicitDefEqProofs (disch := first | omega | (simp -implicitDefEqProofs <;> omega) | fail) [wrap_i64, wrap_u64, wrap_u8, binV_shr, binV_shl, binV_rem, binV_quo, Int.fdiv_eq_ediv_of_nonneg, Int.tdiv_eq_ediv_of_nonneg, Int.tmod_eq_emod_of_nonneg, callG_body, idxAddr_arr, idxAddr_slc, St.alloc_old, St.alloc_at, St.put_other, St.alloc_put_old, St.alloc_put_new, he]
          rw [f11xE0xret_eq]
          simp -implicitDefEqProofs (disch := first | omega | (simp -implicitDefEqProofs <;> omega) | fail) [wrap_i64, wrap_u64, wrap_u8, binV_shr, binV_shl, binV_rem, binV_quo, Int.fdiv_eq_ediv_of_nonneg, Int.tdiv_eq_ediv_of_nonneg, Int.tmod_eq_emod_of_nonneg, callG_body, idxAddr_arr, idxAddr_slc, St.alloc_old, St.alloc_at, St.put_other, St.alloc_put_old, St.alloc_put_new, f11xE0xret]
          rwa [decide_eq_false (fun e => he (by subst e; rfl))] at h
    exact key ns.length 0 (by omega) (by simp)
  · have hle' : ¬ (ns.length : Int) = ms.length := by omega
    simp -implicitDefEqProofs (disch := first | omega | (simp -implicitDefEqProofs <;> omega) | fail) [wrap_i64, wrap_u64, wrap_u8, binV_shr, binV_shl, binV_rem, binV_quo, Int.fdiv_eq_ediv_of_nonneg, Int.tdiv_eq_ediv_of_nonneg, Int.tmod_eq_emod_of_nonneg, callG_body, idxAddr_arr, idxAddr_slc, St.alloc_old, St.alloc_at, St.put_other, St.alloc_put_old, St.alloc_put_new, hle']
    rwa [decide_eq_false (fun e => hle (by rw [e]))] at h

/-! ## A set of numbers -/
def setEs (ks : List Nat) : List (Value × Value) := ks.map fun n : Nat => (.int .u64 (n : Int), .bool true)
def setO (ks : List Nat) : AObj := .map (setEs ks)
theorem findA_set {ks : List Nat} {n i : Nat} : findA (.int .u64) (.int .u64 n) (setEs ks) i = some (if n ∈ ks then some (i + ks.idxOf n, .bool true) else none) := by
  induction ks generalizing i with
  | nil => simp [findA, setEs]
  | cons k t ih =>
    simp only [setEs] at ih
    simp only [setEs, List.map_cons, findA, Instr.sameNow, if_true]
    by_cases h : n = k
    · subst h; simp
    · have : ((n : Int) == (k : Int)) = false := by simp; omega
      rw [this]
      simp only [ih]
      have h' : ¬ k = n := fun e => h e.symm
      have e : (k :: t).idxOf n = t.idxOf n + 1 := by
        have : (k == n) = false := by simpa using h'
        simp only [List.idxOf, List.findIdx_cons, this, cond_false]
      rw [e]
      by_cases hm : n ∈ t
      · simp [h, hm]; omega
      · simp [h, hm]
theorem look_set {ks : List Nat} {n r : Nat} {s : St} (h : s.heap r = some (setO ks)) : lookV (some (.int .u64, .bool false)) (.map (some r)) (.int .u64 n) false s = some (.bool (decide (n ∈ ks))) := by
  simp only [lookV, entries, h, setO, findA_set]
  by_cases hn : n ∈ ks <;> simp [hn]
theorem put_set {ks : List Nat} {n r : Nat} {k : Post} {s : St} (h : s.heap r = some (setO ks)) : mapPutW (some (.int .u64, .bool false)) (.map (some r)) (.int .u64 n) (.bool true) k s = ap k undef (s.put r (setO (if n ∈ ks then ks else ks ++ [n]))) := by
  simp only [mapPutW, h, setO, findA_set, ap]
  by_cases hn : n ∈ ks
  · have : (setEs ks).set (ks.idxOf n) (.int .u64 n, .bool true) = setEs ks := by
      apply List.ext_getElem?
      intro j
      rw [List.getElem?_set]
      by_cases hj : ks.idxOf n = j
      · subst hj
        have := List.idxOf_lt_length_of_mem hn
        simp [setEs, this]
      · simp [hj]
    simp [hn, this]
  · simp [hn, setEs]

theorem checkset_spec (hl : Bare laid) {v : Value} {ns : List Nat} {Q : Post} {s : St} (hv : u64E.Sl s v ns) (hlen : ns.length < 1000000) (hvn : ∀ b o l c, v = .slice (some ⟨b, o, none⟩) l c → b < s.next)
    (h : ∀ ks, (∀ m, m ∈ ks ↔ m ∈ ns) → Q (.map (some s.next)) (s.alloc (setO ks))) : CC laid 14 [v] Q s := by
  refine calls_body (hl 14 (by decide)) ?_
  rw [f14xeq, f14xS]
  have hvl := fun s' => hv.len (P := P) (t := 43) (s' := s') y_P_underlying_43
  simp -implicitDefEqProofs (disch := first | omega | (simp -implicitDefEqProofs <;> omega) | fail) [wrap_i64, wrap_u64, wrap_u8, binV_shr, binV_shl, binV_rem, binV_quo, Int.fdiv_eq_ediv_of_nonneg, Int.tdiv_eq_ediv_of_nonneg, Int.tmod_eq_emod_of_nonneg, callG_body, idxAddr_arr, idxAddr_slc, St.alloc_old, St.alloc_at, St.put_other, St.alloc_put_old, St.alloc_put_new, hvl, mapN]
  refine f14xloop0 fun I hI => ?_
  have key : ∀ k i : Nat, i + k = ns.length → ∀ ks, (∀ m, m ∈ ks ↔ m ∈ ns.take i) → I (.map (some s.next)) v (.int .i64 ns.length) (.int .i64 i) (s.alloc (setO ks)) := by
    intro k
    induction k with
    | zero =>
      intro i hi ks hks
      refine hI _ _ _ _ _ ?_
      have hnl : ¬ i < ns.length := by omega
      simp -implicitDefEqProofs (disch := first | omega | (simp -implicitDefEqProofs <;> omega) | fail) [wrap_i64, wrap_u64, wrap_u8, binV_shr, binV_shl, binV_rem, binV_quo, Int.fdiv_eq_ediv_of_nonneg, Int.tdiv_eq_ediv_of_nonneg, Int.tmod_eq_emod_of_nonneg, callG_body, idxAddr_arr, idxAddr_slc, St.alloc_old, St.alloc_at, St.put_other, St.alloc_put_old, St.alloc_put_new, f14xB0, hnl]
      rw [f14xE0x0xeq]
      simp -implicitDefEqProofs (disch := first | omega | (simp -implicitDefEqProofs <;> omega) | fail) [wrap_i64, wrap_u64, wrap_u8, binV_shr, binV_shl, binV_rem, binV_quo, Int.fdiv_eq_ediv_of_nonneg, Int.tdiv_eq_ediv_of_nonneg, Int.tmod_eq_emod_of_nonneg, callG_body, idxAddr_arr, idxAddr_slc, St.alloc_old, St.alloc_at, St.put_other, St.alloc_put_old, St.alloc_put_new, f14xE0x0, f14xJ3]
      rw [List.take_of_length_le (by omega)] at hks
      exact kEnd_keep (h ks hks)
    | succ k ih =>
      intro i hi ks hks
      refine hI _ _ _ _ _ ?_
      have hlt : i < ns.length := by omega
      obtain ⟨b, o, cc, rfl, hA⟩ := hv.ne (by intro e; simp [e] at hlt)
      have hbn := hvn _ _ _ _ rfl
      have hA' : u64E.At (s.alloc (setO ks)) b o ns := hA.same (St.alloc_old hbn)
      simp -implicitDefEqProofs (disch := first | omega | (simp -implicitDefEqProofs <;> omega) | fail) [wrap_i64, wrap_u64, wrap_u8, binV_shr, binV_shl, binV_rem, binV_quo, Int.fdiv_eq_ediv_of_nonneg, Int.tdiv_eq_ediv_of_nonneg, Int.tmod_eq_emod_of_nonneg, callG_body, idxAddr_arr, idxAddr_slc, St.alloc_old, St.alloc_at, St.put_other, St.alloc_put_old, St.alloc_put_new, f14xB0, hlt, f14xJ2, hA'.one hlt, put_set (ks := ks), f14xJ1]
      refine ih (i + 1) (by omega) _ (fun m => ?_)
      have ht : ns.take (i + 1) = ns.take i ++ [ns[i]] := (List.take_append_getElem hlt).symm
      rw [ht, List.mem_append, List.mem_singleton, ← hks]
      split
      · rename_i hm
        exact ⟨.inl, fun h => h.elim id (fun e => e ▸ hm)⟩
      · simp
  exact key ns.length 0 (by omega) [] (by simp)

end Go.Zz
