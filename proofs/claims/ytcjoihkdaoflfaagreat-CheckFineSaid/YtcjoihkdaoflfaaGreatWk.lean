/- The leaks: by the tree, and by the lists. -/
import Derived.Test.YtcjoihkdaoflfaaGreatWj
set_option linter.all false
set_option maxRecDepth 20000
namespace Go.Zz
open Go

variable {laid : Laid}

theorem TreeR.same {s s' : St} {tp : Nat} {ρ : Option Nat} {hs : List Hd} (h : TreeR s tp ρ hs) (hn : s.next ≤ s'.next) (e : ∀ b, b < s.next → s'.heap b = s.heap b) : TreeR s' tp ρ hs := by
  obtain ⟨⟨cv, v, tl, hb, ho⟩, h2, h3, h4⟩ := h
  exact ⟨⟨cv, v, tl, (e tp h3).trans hb, ho.same hn (fun b hb => e b (by subst hb; exact ho.lt))⟩, h2, by omega, h4⟩

theorem push_num {v : Value} {ρ : Option Nat} {xs : List Nat} {n : Int} {m : Nat} {k : Post} {s : St} (hnm : n = m) (ho : u64E.Own s v ρ xs) (hlen : xs.length < 1000000)
    (hk : ∀ v' s' ρ', u64E.Own s' v' ρ' (xs ++ [m]) → s.next ≤ s'.next → Grew s ρ ρ' → (∀ b, b < s.next → some b ≠ ρ → s'.heap b = s.heap b) → k v' s') :
    newW (bslN (some (37, 1, 8, [.int .u64 0])) 1 #[(0, .int .u64 n)]) (fun x s => apdW P (tSlice P 43) 43 v x k s) s := by
  subst hnm
  have hb : bslN (some (37, 1, 8, [.int .u64 0])) 1 #[(0, .int .u64 (m : Int))] = some (.cells [.int .u64 (m : Int)] false, .slc 1 1) := by
    simp [bslN, fillV, data, Instr.fill, Value.cells, zeros]
  rw [hb]
  simp -implicitDefEqProofs (disch := first | omega | (simp -implicitDefEqProofs <;> omega) | fail) [wrap_i64, wrap_u64, wrap_u8, binV_shr, binV_shl, binV_rem, binV_quo, Int.fdiv_eq_ediv_of_nonneg, Int.tdiv_eq_ediv_of_nonneg, Int.tmod_eq_emod_of_nonneg, callG_body, idxAddr_arr, idxAddr_slc, St.alloc_old, St.alloc_at, St.put_other, St.alloc_put_old, St.alloc_put_new]
  have hsl : u64E.Sl (s.alloc (.cells [.int .u64 (m : Int)] false)) (.slice (some ⟨s.next, 0, none⟩) 1 1) [m] := .row (xs := [m]) ⟨[], [], false, by simp [Enc.row], rfl⟩
  have hnews := hsl.news (P := P) (t := 43) (bytes := 8) (zero := [.int .u64 0]) y_tZeros_43
  simp -implicitDefEqProofs (disch := first | omega | (simp -implicitDefEqProofs <;> omega) | fail) [wrap_i64, wrap_u64, wrap_u8, binV_shr, binV_shl, binV_rem, binV_quo, Int.fdiv_eq_ediv_of_nonneg, Int.tdiv_eq_ediv_of_nonneg, Int.tmod_eq_emod_of_nonneg, callG_body, idxAddr_arr, idxAddr_slc, St.alloc_old, St.alloc_at, St.put_other, St.alloc_put_old, St.alloc_put_new, hnews]
  have hρ : ∀ b, ρ = some b → b < s.next := fun b hb => by subst hb; exact ho.lt
  refine (ho.same (s' := s.alloc (.cells [.int .u64 (m : Int)] false)) (by simp) (fun b hb => St.alloc_old (hρ b hb))).append (ys := [m]) (by decide) (by simp; omega) (by simp; omega) fun v' s' ρ' h1 h2 h3 h4 _ => ?_
  refine hk v' s' ρ' h1 (by simp at h2; omega) ?_ (fun b hb hbρ => ?_)
  · rcases h3 with h | ⟨b, h, hb⟩
    · exact .inl h
    · exact .inr ⟨b, h, by simp at hb; omega⟩
  · rw [h4 b (by simp; omega) hbρ, St.alloc_old hb]

/-- Those from 1 to n of which c holds. -/
def leakL (c : Nat → Bool) (n : Nat) : List Nat := ((List.range n).map (· + 1)).filter c
theorem leakL_succ (c : Nat → Bool) (n : Nat) : leakL c (n + 1) = leakL c n ++ if c (n + 1) = true then [n + 1] else [] := by
  simp only [leakL, List.range_succ, List.map_append, List.filter_append, List.map_cons, List.map_nil]
  congr 1
  by_cases h : c (n + 1) = true <;> simp [h]
theorem leakL_len (c : Nat → Bool) (n : Nat) : (leakL c n).length ≤ n := by
  have := List.length_filter_le c ((List.range n).map (· + 1))
  simpa [leakL] using this
theorem leakL_lt {c : Nat → Bool} {n : Nat} (h : n < 1000000) : (leakL c n).length < 1000000 := Nat.lt_of_le_of_lt (leakL_len c n) h

theorem look_setz {ks : List Nat} {z : Int} {n r : Nat} {s : St} (hz : z = n) (h : s.heap r = some (setO ks)) : lookV (some (.int .u64, .bool false)) (.map (some r)) (.int .u64 z) false s = some (.bool (decide (n ∈ ks))) := by subst hz; exact look_set h
theorem Leaf_call (hl : Bare laid) {z : Int} {n : Nat} (hz : z = n) (hn : n < 1000000) {Q : Post} {s : St} (hq : Q (.int .u64 (2 * n : Nat)) s) : CC laid 40 [.int .u64 z] Q s := by subst hz; exact Leaf_spec hl hn hq

open Classical in
set_option maxRecDepth 20000 in
theorem Leaks_spec (hl : Bare laid) {tp : Nat} {ρt : Option Nat} {hs : List Hd} {vk vp : Value} {ks ps : List Nat} {top : Nat} {Q : Post} {s : St} (ht : TreeR s tp ρt hs) (hk : u64E.Sl s vk ks) (hp : u64E.Sl s vp ps) (hkl : ks.length < 1000000) (hpl : ps.length < 1000000) (htop : top < 65535)
    (hkn : ∀ b o l c, vk = .slice (some ⟨b, o, none⟩) l c → b < s.next) (hpn : ∀ b o l c, vp = .slice (some ⟨b, o, none⟩) l c → b < s.next)
    (hq : ∀ v s' ρ, u64E.Own s' v ρ (leakL (fun n => decide (Cov hs (2 * n)) && !decide (n ∈ ks) || decide (Cov hs (2 * n + 1)) && !decide (n ∈ ps)) top) → s.next ≤ s'.next → (∀ b, b < s.next → s'.heap b = s.heap b) → Q v s') :
    CC laid 12 [.pointer (some ⟨tp, 0, none⟩), vk, vp, .int .u64 top] Q s := by
  refine calls_body (hl 12 (by decide)) ?_
  rw [f12xeq, f12xS]
  have hpn0 : binV P .eql 35 (.pointer (some ⟨tp, 0, none⟩)) (.pointer none) = some (.bool false) := by simp [binV, eqOp]
  simp -implicitDefEqProofs (disch := first | omega | (simp -implicitDefEqProofs <;> omega) | fail) [wrap_i64, wrap_u64, wrap_u8, binV_shr, binV_shl, binV_rem, binV_quo, Int.fdiv_eq_ediv_of_nonneg, Int.tdiv_eq_ediv_of_nonneg, Int.tmod_eq_emod_of_nonneg, callG_body, idxAddr_arr, idxAddr_slc, St.alloc_old, St.alloc_at, St.put_other, St.alloc_put_old, St.alloc_put_new, hpn0, f12xJ6]
  refine checkset_spec hl hk hkl hkn fun ks' hks' => ?_
  simp -implicitDefEqProofs (disch := first | omega | (simp -implicitDefEqProofs <;> omega) | fail) [wrap_i64, wrap_u64, wrap_u8, binV_shr, binV_shl, binV_rem, binV_quo, Int.fdiv_eq_ediv_of_nonneg, Int.tdiv_eq_ediv_of_nonneg, Int.tmod_eq_emod_of_nonneg, callG_body, idxAddr_arr, idxAddr_slc, St.alloc_old, St.alloc_at, St.put_other, St.alloc_put_old, St.alloc_put_new]
  have hp' : u64E.Sl (s.alloc (setO ks')) vp ps := by
    cases hp with
    | nil => exact .nil
    | empty => exact .empty
    | row h => exact .row (h.same (St.alloc_old (hpn _ _ _ _ rfl)))
  refine checkset_spec hl hp' hpl (fun b o l c e => by have := hpn b o l c e; simp; omega) fun ps' hps' => ?_
  simp -implicitDefEqProofs (disch := first | omega | (simp -implicitDefEqProofs <;> omega) | fail) [wrap_i64, wrap_u64, wrap_u8, binV_shr, binV_shl, binV_rem, binV_quo, Int.fdiv_eq_ediv_of_nonneg, Int.tdiv_eq_ediv_of_nonneg, Int.tmod_eq_emod_of_nonneg, callG_body, idxAddr_arr, idxAddr_slc, St.alloc_old, St.alloc_at, St.put_other, St.alloc_put_old, St.alloc_put_new]
  have hcond : (fun n => decide (Cov hs (2 * n)) && !decide (n ∈ ks) || decide (Cov hs (2 * n + 1)) && !decide (n ∈ ps)) = (fun n => decide (Cov hs (2 * n)) && !decide (n ∈ ks') || decide (Cov hs (2 * n + 1)) && !decide (n ∈ ps')) := by
    funext n; simp only [hks', hps']
  rw [hcond] at hq
  clear hcond
  generalize hs0 : (s.alloc (setO ks')).alloc (setO ps') = s0
  have h0n : s0.next = s.next + 1 + 1 := by subst hs0; simp
  have h0k : s0.heap s.next = some (setO ks') := by subst hs0; simp -implicitDefEqProofs (disch := first | omega | (simp -implicitDefEqProofs <;> omega) | fail) [wrap_i64, wrap_u64, wrap_u8, binV_shr, binV_shl, binV_rem, binV_quo, Int.fdiv_eq_ediv_of_nonneg, Int.tdiv_eq_ediv_of_nonneg, Int.tmod_eq_emod_of_nonneg, callG_body, idxAddr_arr, idxAddr_slc, St.alloc_old, St.alloc_at, St.put_other, St.alloc_put_old, St.alloc_put_new]
  have h0p : s0.heap (s.next + 1) = some (setO ps') := by subst hs0; simp -implicitDefEqProofs (disch := first | omega | (simp -implicitDefEqProofs <;> omega) | fail) [wrap_i64, wrap_u64, wrap_u8, binV_shr, binV_shl, binV_rem, binV_quo, Int.fdiv_eq_ediv_of_nonneg, Int.tdiv_eq_ediv_of_nonneg, Int.tmod_eq_emod_of_nonneg, callG_body, idxAddr_arr, idxAddr_slc, St.alloc_old, St.alloc_at, St.put_other, St.alloc_put_old, St.alloc_put_new]
  have h0f : ∀ b, b < s.next → s0.heap b = s.heap b := fun b hb => by subst hs0; simp -implicitDefEqProofs (disch := first | omega | (simp -implicitDefEqProofs <;> omega) | fail) [wrap_i64, wrap_u64, wrap_u8, binV_shr, binV_shl, binV_rem, binV_quo, Int.fdiv_eq_ediv_of_nonneg, Int.tdiv_eq_ediv_of_nonneg, Int.tmod_eq_emod_of_nonneg, callG_body, idxAddr_arr, idxAddr_slc, St.alloc_old, St.alloc_at, St.put_other, St.alloc_put_old, St.alloc_put_new]
  clear hs0
  refine f12xloop0 fun I hI => ?_
  have key : ∀ k i : Nat, i + k = top → ∀ (v : Value) (S : St) (ρ : Option Nat), u64E.Own S v ρ (leakL (fun n => decide (Cov hs (2 * n)) && !decide (n ∈ ks') || decide (Cov hs (2 * n + 1)) && !decide (n ∈ ps')) i) → s0.next ≤ S.next → (∀ b, b < s0.next → S.heap b = s0.heap b) → (∀ b, ρ = some b → s0.next ≤ b) →
      I (.pointer (some ⟨tp, 0, none⟩)) (.int .u64 top) v (.map (some s.next)) (.map (some (s.next + 1))) (.int .u64 (i + 1 : Nat)) S := by
    intro k
    have hmin : ¬ (65535 : Int) < top := by omega
    have hmin' : ¬ 65535 < top := by omega
    induction k with
    | zero =>
      intro i hi v S ρ ho hSn hSf _
      refine hI _ _ _ _ _ _ _ ?_
      have h1 : ¬ (i : Int) + 1 ≤ top := by omega
      have h2 : ¬ i + 1 ≤ top := by omega
      have h3 : ¬ i < top := by omega
      simp -implicitDefEqProofs (disch := first | omega | (simp -implicitDefEqProofs <;> omega) | fail) [wrap_i64, wrap_u64, wrap_u8, binV_shr, binV_shl, binV_rem, binV_quo, Int.fdiv_eq_ediv_of_nonneg, Int.tdiv_eq_ediv_of_nonneg, Int.tmod_eq_emod_of_nonneg, callG_body, idxAddr_arr, idxAddr_slc, St.alloc_old, St.alloc_at, St.put_other, St.alloc_put_old, St.alloc_put_new, f12xB0, foldV, min2, hmin, hmin', h1, h2, h3]
      rw [f12xE0x0xeq]
      simp -implicitDefEqProofs (disch := first | omega | (simp -implicitDefEqProofs <;> omega) | fail) [wrap_i64, wrap_u64, wrap_u8, binV_shr, binV_shl, binV_rem, binV_quo, Int.fdiv_eq_ediv_of_nonneg, Int.tdiv_eq_ediv_of_nonneg, Int.tmod_eq_emod_of_nonneg, callG_body, idxAddr_arr, idxAddr_slc, St.alloc_old, St.alloc_at, St.put_other, St.alloc_put_old, St.alloc_put_new, f12xE0x0, f12xJ3]
      have e : i = top := by omega
      subst e
      exact kEnd_keep (hq v S ρ ho (by omega) (fun b hb => by rw [hSf b (by omega), h0f b hb]))
    | succ k ih =>
      intro i hi v S ρ ho hSn hSf hSρ
      refine hI _ _ _ _ _ _ _ ?_
      have h1 : (i : Int) + 1 ≤ top := by omega
      have h2 : i + 1 ≤ top := by omega
      have h3 : i < top := by omega
      have hT : TreeR S tp ρt hs := ht.same (by omega) (fun b hb => by rw [hSf b (by omega), h0f b hb])
      have hS1 : S.heap s.next = some (setO ks') := (hSf _ (by omega)).trans h0k
      have hS2 : S.heap (s.next + 1) = some (setO ps') := (hSf _ (by omega)).trans h0p
      have hlk1 := look_setz (z := (i : Int) + 1) (n := i + 1) (by omega) hS1
      have hlk2 := look_setz (z := (i : Int) + 1) (n := i + 1) (by omega) hS2
      simp -implicitDefEqProofs (disch := first | omega | (simp -implicitDefEqProofs <;> omega) | fail) [wrap_i64, wrap_u64, wrap_u8, binV_shr, binV_shl, binV_rem, binV_quo, Int.fdiv_eq_ediv_of_nonneg, Int.tdiv_eq_ediv_of_nonneg, Int.tmod_eq_emod_of_nonneg, callG_body, idxAddr_arr, idxAddr_slc, St.alloc_old, St.alloc_at, St.put_other, St.alloc_put_old, St.alloc_put_new, f12xB0, foldV, min2, hmin, hmin', h1, h2, h3, f12xJ2]
      refine Leaf_spec hl (n := i + 1) (by omega) ?_
      simp -implicitDefEqProofs (disch := first | omega | (simp -implicitDefEqProofs <;> omega) | fail) [wrap_i64, wrap_u64, wrap_u8, binV_shr, binV_shl, binV_rem, binV_quo, Int.fdiv_eq_ediv_of_nonneg, Int.tdiv_eq_ediv_of_nonneg, Int.tmod_eq_emod_of_nonneg, callG_body, idxAddr_arr, idxAddr_slc, St.alloc_old, St.alloc_at, St.put_other, St.alloc_put_old, St.alloc_put_new]
      refine Has_spec hl (n := 2 * (i + 1)) (by omega) hT (fun a => ?_) (fun a => ?_)
      · by_cases b : i + 1 ∈ ks'
        · simp -implicitDefEqProofs (disch := first | omega | (simp -implicitDefEqProofs <;> omega) | fail) [wrap_i64, wrap_u64, wrap_u8, binV_shr, binV_shl, binV_rem, binV_quo, Int.fdiv_eq_ediv_of_nonneg, Int.tdiv_eq_ediv_of_nonneg, Int.tmod_eq_emod_of_nonneg, callG_body, idxAddr_arr, idxAddr_slc, St.alloc_old, St.alloc_at, St.put_other, St.alloc_put_old, St.alloc_put_new, hlk1, b]
          refine Token_spec hl (n := i + 1) (by omega) ?_
          simp -implicitDefEqProofs (disch := first | omega | (simp -implicitDefEqProofs <;> omega) | fail) [wrap_i64, wrap_u64, wrap_u8, binV_shr, binV_shl, binV_rem, binV_quo, Int.fdiv_eq_ediv_of_nonneg, Int.tdiv_eq_ediv_of_nonneg, Int.tmod_eq_emod_of_nonneg, callG_body, idxAddr_arr, idxAddr_slc, St.alloc_old, St.alloc_at, St.put_other, St.alloc_put_old, St.alloc_put_new]
          refine Has_spec hl (n := 2 * (i + 1) + 1) (by omega) hT (fun c => ?_) (fun c => ?_)
          · by_cases d : i + 1 ∈ ps'
            · simp -implicitDefEqProofs (disch := first | omega | (simp -implicitDefEqProofs <;> omega) | fail) [wrap_i64, wrap_u64, wrap_u8, binV_shr, binV_shl, binV_rem, binV_quo, Int.fdiv_eq_ediv_of_nonneg, Int.tdiv_eq_ediv_of_nonneg, Int.tmod_eq_emod_of_nonneg, callG_body, idxAddr_arr, idxAddr_slc, St.alloc_old, St.alloc_at, St.put_other, St.alloc_put_old, St.alloc_put_new, hlk2, d]
              simp -implicitDefEqProofs (disch := first | omega | (simp -implicitDefEqProofs <;> omega) | fail) [wrap_i64, wrap_u64, wrap_u8, binV_shr, binV_shl, binV_rem, binV_quo, Int.fdiv_eq_ediv_of_nonneg, Int.tdiv_eq_ediv_of_nonneg, Int.tmod_eq_emod_of_nonneg, callG_body, idxAddr_arr, idxAddr_slc, St.alloc_old, St.alloc_at, St.put_other, St.alloc_put_old, St.alloc_put_new, f12xJ1]
              exact ih (i + 1) (by omega) v S ρ (by rw [leakL_succ]; simpa [a, b, c, d] using ho) hSn hSf hSρ
            · simp -implicitDefEqProofs (disch := first | omega | (simp -implicitDefEqProofs <;> omega) | fail) [wrap_i64, wrap_u64, wrap_u8, binV_shr, binV_shl, binV_rem, binV_quo, Int.fdiv_eq_ediv_of_nonneg, Int.tdiv_eq_ediv_of_nonneg, Int.tmod_eq_emod_of_nonneg, callG_body, idxAddr_arr, idxAddr_slc, St.alloc_old, St.alloc_at, St.put_other, St.alloc_put_old, St.alloc_put_new, hlk2, d]
              refine push_num (m := i + 1) ?hh ho (leakL_lt (by omega)) fun v' s' ρ' w1 w2 w3 w4 => ?_
              case hh => omega
              simp -implicitDefEqProofs (disch := first | omega | (simp -implicitDefEqProofs <;> omega) | fail) [wrap_i64, wrap_u64, wrap_u8, binV_shr, binV_shl, binV_rem, binV_quo, Int.fdiv_eq_ediv_of_nonneg, Int.tdiv_eq_ediv_of_nonneg, Int.tmod_eq_emod_of_nonneg, callG_body, idxAddr_arr, idxAddr_slc, St.alloc_old, St.alloc_at, St.put_other, St.alloc_put_old, St.alloc_put_new, f12xJ1]
              refine ih (i + 1) (by omega) v' s' ρ' (by rw [leakL_succ]; simpa [a, b, c, d] using w1) (by omega) (fun x hx => by rw [w4 x (by omega) (fun e => by have := hSρ x e.symm; omega), hSf x hx]) (fun x hx => ?_)
              rcases w3 with h | ⟨y, h, hy⟩
              · exact hSρ x (h ▸ hx)
              · rw [hx] at h; cases h; omega
          · simp -implicitDefEqProofs (disch := first | omega | (simp -implicitDefEqProofs <;> omega) | fail) [wrap_i64, wrap_u64, wrap_u8, binV_shr, binV_shl, binV_rem, binV_quo, Int.fdiv_eq_ediv_of_nonneg, Int.tdiv_eq_ediv_of_nonneg, Int.tmod_eq_emod_of_nonneg, callG_body, idxAddr_arr, idxAddr_slc, St.alloc_old, St.alloc_at, St.put_other, St.alloc_put_old, St.alloc_put_new]
            simp -implicitDefEqProofs (disch := first | omega | (simp -implicitDefEqProofs <;> omega) | fail) [wrap_i64, wrap_u64, wrap_u8, binV_shr, binV_shl, binV_rem, binV_quo, Int.fdiv_eq_ediv_of_nonneg, Int.tdiv_eq_ediv_of_nonneg, Int.tmod_eq_emod_of_nonneg, callG_body, idxAddr_arr, idxAddr_slc, St.alloc_old, St.alloc_at, St.put_other, St.alloc_put_old, St.alloc_put_new, f12xJ1]
            exact ih (i + 1) (by omega) v S ρ (by rw [leakL_succ]; simpa [a, b, c] using ho) hSn hSf hSρ
        · simp -implicitDefEqProofs (disch := first | omega | (simp -implicitDefEqProofs <;> omega) | fail) [wrap_i64, wrap_u64, wrap_u8, binV_shr, binV_shl, binV_rem, binV_quo, Int.fdiv_eq_ediv_of_nonneg, Int.tdiv_eq_ediv_of_nonneg, Int.tmod_eq_emod_of_nonneg, callG_body, idxAddr_arr, idxAddr_slc, St.alloc_old, St.alloc_at, St.put_other, St.alloc_put_old, St.alloc_put_new, hlk1, b]
          refine push_num (m := i + 1) ?hh ho (leakL_lt (by omega)) fun v' s' ρ' w1 w2 w3 w4 => ?_
          case hh => omega
          simp -implicitDefEqProofs (disch := first | omega | (simp -implicitDefEqProofs <;> omega) | fail) [wrap_i64, wrap_u64, wrap_u8, binV_shr, binV_shl, binV_rem, binV_quo, Int.fdiv_eq_ediv_of_nonneg, Int.tdiv_eq_ediv_of_nonneg, Int.tmod_eq_emod_of_nonneg, callG_body, idxAddr_arr, idxAddr_slc, St.alloc_old, St.alloc_at, St.put_other, St.alloc_put_old, St.alloc_put_new, f12xJ1]
          refine ih (i + 1) (by omega) v' s' ρ' (by rw [leakL_succ]; simpa [a, b] using w1) (by omega) (fun x hx => by rw [w4 x (by omega) (fun e => by have := hSρ x e.symm; omega), hSf x hx]) (fun x hx => ?_)
          rcases w3 with h | ⟨y, h, hy⟩
          · exact hSρ x (h ▸ hx)
          · rw [hx] at h; cases h; omega
      · simp -implicitDefEqProofs (disch := first | omega | (simp -implicitDefEqProofs <;> omega) | fail) [wrap_i64, wrap_u64, wrap_u8, binV_shr, binV_shl, binV_rem, binV_quo, Int.fdiv_eq_ediv_of_nonneg, Int.tdiv_eq_ediv_of_nonneg, Int.tmod_eq_emod_of_nonneg, callG_body, idxAddr_arr, idxAddr_slc, St.alloc_old, St.alloc_at, St.put_other, St.alloc_put_old, St.alloc_put_new]
        refine Token_spec hl (n := i + 1) (by omega) ?_
        simp -implicitDefEqProofs (disch := first | omega | (simp -implicitDefEqProofs <;> omega) | fail) [wrap_i64, wrap_u64, wrap_u8, binV_shr, binV_shl, binV_rem, binV_quo, Int.fdiv_eq_ediv_of_nonneg, Int.tdiv_eq_ediv_of_nonneg, Int.tmod_eq_emod_of_nonneg, callG_body, idxAddr_arr, idxAddr_slc, St.alloc_old, St.alloc_at, St.put_other, St.alloc_put_old, St.alloc_put_new]
        refine Has_spec hl (n := 2 * (i + 1) + 1) (by omega) hT (fun c => ?_) (fun c => ?_)
        · by_cases d : i + 1 ∈ ps'
          · simp -implicitDefEqProofs (disch := first | omega | (simp -implicitDefEqProofs <;> omega) | fail) [wrap_i64, wrap_u64, wrap_u8, binV_shr, binV_shl, binV_rem, binV_quo, Int.fdiv_eq_ediv_of_nonneg, Int.tdiv_eq_ediv_of_nonneg, Int.tmod_eq_emod_of_nonneg, callG_body, idxAddr_arr, idxAddr_slc, St.alloc_old, St.alloc_at, St.put_other, St.alloc_put_old, St.alloc_put_new, hlk2, d]
            simp -implicitDefEqProofs (disch := first | omega | (simp -implicitDefEqProofs <;> omega) | fail) [wrap_i64, wrap_u64, wrap_u8, binV_shr, binV_shl, binV_rem, binV_quo, Int.fdiv_eq_ediv_of_nonneg, Int.tdiv_eq_ediv_of_nonneg, Int.tmod_eq_emod_of_nonneg, callG_body, idxAddr_arr, idxAddr_slc, St.alloc_old, St.alloc_at, St.put_other, St.alloc_put_old, St.alloc_put_new, f12xJ1]
            exact ih (i + 1) (by omega) v S ρ (by rw [leakL_succ]; simpa [a, c, d] using ho) hSn hSf hSρ
          · simp -implicitDefEqProofs (disch := first | omega | (simp -implicitDefEqProofs <;> omega) | fail) [wrap_i64, wrap_u64, wrap_u8, binV_shr, binV_shl, binV_rem, binV_quo, Int.fdiv_eq_ediv_of_nonneg, Int.tdiv_eq_ediv_of_nonneg, Int.tmod_eq_emod_of_nonneg, callG_body, idxAddr_arr, idxAddr_slc, St.alloc_old, St.alloc_at, St.put_other, St.alloc_put_old, St.alloc_put_new, hlk2, d]
            refine push_num (m := i + 1) ?hh ho (leakL_lt (by omega)) fun v' s' ρ' w1 w2 w3 w4 => ?_
            case hh => omega
            simp -implicitDefEqProofs (disch := first | omega | (simp -implicitDefEqProofs <;> omega) | fail) [wrap_i64, wrap_u64, wrap_u8, binV_shr, binV_shl, binV_rem, binV_quo, Int.fdiv_eq_ediv_of_nonneg, Int.tdiv_eq_ediv_of_nonneg, Int.tmod_eq_emod_of_nonneg, callG_body, idxAddr_arr, idxAddr_slc, St.alloc_old, St.alloc_at, St.put_other, St.alloc_put_old, St.alloc_put_new, f12xJ1]
            refine ih (i + 1) (by omega) v' s' ρ' (by rw [leakL_succ]; simpa [a, c, d] using w1) (by omega) (fun x hx => by rw [w4 x (by omega) (fun e => by have := hSρ x e.symm; omega), hSf x hx]) (fun x hx => ?_)
            rcases w3 with h | ⟨y, h, hy⟩
            · exact hSρ x (h ▸ hx)
            · rw [hx] at h; cases h; omega
        · simp -implicitDefEqProofs (disch := first | omega | (simp -implicitDefEqProofs <;> omega) | fail) [wrap_i64, wrap_u64, wrap_u8, binV_shr, binV_shl, binV_rem, binV_quo, Int.fdiv_eq_ediv_of_nonneg, Int.tdiv_eq_ediv_of_nonneg, Int.tmod_eq_emod_of_nonneg, callG_body, idxAddr_arr, idxAddr_slc, St.alloc_old, St.alloc_at, St.put_other, St.alloc_put_old, St.alloc_put_new]
          simp -implicitDefEqProofs (disch := first | omega | (simp -implicitDefEqProofs <;> omega) | fail) [wrap_i64, wrap_u64, wrap_u8, binV_shr, binV_shl, binV_rem, binV_quo, Int.fdiv_eq_ediv_of_nonneg, Int.tdiv_eq_ediv_of_nonneg, Int.tmod_eq_emod_of_nonneg, callG_body, idxAddr_arr, idxAddr_slc, St.alloc_old, St.alloc_at, St.put_other, St.alloc_put_old, St.alloc_put_new, f12xJ1]
          exact ih (i + 1) (by omega) v S ρ (by rw [leakL_succ]; simpa [a, c] using ho) hSn hSf hSρ
  exact key top 0 (by omega) _ s0 none .nil (Nat.le_refl _) (fun _ _ => rfl) (fun _ h => by cases h)

end Go.Zz
