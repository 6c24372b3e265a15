/- The law CheckKept, walked. -/
import Derived.Test.YtcjoihkdaoflfaaWp
set_option linter.all false
namespace Go.Zz
open Go

theorem leakL_none {c : Nat → Bool} {n : Nat} (h : ∀ m, 1 ≤ m → m ≤ n → c m = false) : leakL c n = [] := by
  induction n with
  | zero => rfl
  | succ n ih =>
    rw [leakL_succ, ih (fun m h1 h2 => h m h1 (by omega)), h (n + 1) (by omega) (by omega)]
    rfl
theorem leakL_one {c : Nat → Bool} {n k : Nat} (h : ∀ m, 1 ≤ m → m ≤ n → (c m = true ↔ m = k)) (h1 : 1 ≤ k) (h2 : k ≤ n) : leakL c n = [k] := by
  induction n with
  | zero => omega
  | succ n ih =>
    rw [leakL_succ]
    by_cases hk : k = n + 1
    · have e : leakL c n = [] := leakL_none fun m a b => by
        have := h m a (by omega)
        cases hc : c m
        · rfl
        · have := this.1 hc; omega
      have e2 : c (n + 1) = true := (h (n + 1) (by omega) (by omega)).2 hk.symm
      simp [e, e2, hk]
    · have e2 : ¬ c (n + 1) = true := fun hc => hk ((h (n + 1) (by omega) (by omega)).1 hc).symm
      simp [ih (fun m a b => h m a (by omega)) (by omega), e2]

/-- What is left of a tree behind number i. -/
def Left (ks ps : List Nat) (i m : Nat) : Prop := m < 131072 ∧ (∀ y, 1 ≤ y → y ≤ i → m = 2 * y → y ∈ ks) ∧ (∀ y, 1 ≤ y → y ≤ i → m = 2 * y + 1 → y ∈ ps)

theorem keptHas_nat {laid : Laid} (hl : Bare laid) {v : Value} {ns : List Nat} {z : Int} {n : Nat} {Q : Post} {s : St} (hz : z = n) (hv : u64E.Sl s v ns) (hlen : ns.length < 1000000) (h : Q (.bool (decide (n ∈ ns))) s) : CC laid 11 [v, .int .u64 z] Q s := by
  refine keptHas_spec hl hv hlen ?_
  have e : (∃ m ∈ ns, (m : Int) = z) ↔ n ∈ ns := by
    subst hz
    refine ⟨fun ⟨m, hm, e⟩ => ?_, fun h => ⟨n, h, rfl⟩⟩
    have : m = n := by omega
    exact this ▸ hm
  rwa [decide_eq_decide.2 e]
theorem Token_call {laid : Laid} (hl : Bare laid) {z : Int} {n : Nat} (hz : z = n) (hn : n < 1000000) {Q : Post} {s : St} (hq : Q (.int .u64 (2 * n + 1 : Nat)) s) : CC laid 13 [.int .u64 z] Q s := by subst hz; exact Token_spec hl hn hq

set_option maxRecDepth 20000 in
theorem CheckKept_spec {vk vp : Value} {ks ps : List Nat} {top n : Nat} {Q : Post} {s : St} (hk : u64E.Sl s vk ks) (hp : u64E.Sl s vp ps) (ok : Old s vk) (op : Old s vp)
    (hkm : ∀ m ∈ ks, m < 18446744073709551616) (htop : top < 256) (hn : n < 256) (hq : Q (.bool true) s) : CC laidS 4 [vk, vp, .int .u8 top, .int .u8 n] Q s := by
  have hl := laidS_bare
  refine calls_body (hl 4 (by decide)) ?_
  rw [f4xeq, f4xS]
  have lk := fun s' => hk.len (P := P) (t := 22) (s' := s') y_P_underlying_22
  have lp := fun s' => hp.len (P := P) (t := 22) (s' := s') y_P_underlying_22
  simp -implicitDefEqProofs (disch := first | omega | (simp -implicitDefEqProofs <;> omega) | fail) [wrap_i64, wrap_u64, wrap_u8, binV_shr, binV_shl, binV_rem, binV_quo, Int.fdiv_eq_ediv_of_nonneg, Int.tdiv_eq_ediv_of_nonneg, Int.tmod_eq_emod_of_nonneg, callG_body, idxAddr_arr, idxAddr_slc, St.alloc_old, St.alloc_at, St.put_other, St.alloc_put_old, St.alloc_put_new]
  refine awake_spec ?_
  simp -implicitDefEqProofs (disch := first | omega | (simp -implicitDefEqProofs <;> omega) | fail) [wrap_i64, wrap_u64, wrap_u8, binV_shr, binV_shl, binV_rem, binV_quo, Int.fdiv_eq_ediv_of_nonneg, Int.tdiv_eq_ediv_of_nonneg, Int.tmod_eq_emod_of_nonneg, callG_body, idxAddr_arr, idxAddr_slc, St.alloc_old, St.alloc_at, St.put_other, St.alloc_put_old, St.alloc_put_new, f4xJ15, lk, lp]
  split
  · exact hq
  · rename_i hlim
    simp only [Bool.or_eq_true, decide_eq_true_eq, not_or] at hlim
    simp -implicitDefEqProofs (disch := first | omega | (simp -implicitDefEqProofs <;> omega) | fail) [wrap_i64, wrap_u64, wrap_u8, binV_shr, binV_shl, binV_rem, binV_quo, Int.fdiv_eq_ediv_of_nonneg, Int.tdiv_eq_ediv_of_nonneg, Int.tmod_eq_emod_of_nonneg, callG_body, idxAddr_arr, idxAddr_slc, St.alloc_old, St.alloc_at, St.put_other, St.alloc_put_old, St.alloc_put_new, f4xJ14, build_lit, mkIf, build_key1]
    refine New_spec hl fun s1 ρ1 t1 h1 h2 h3 => ?_
    simp -implicitDefEqProofs (disch := first | omega | (simp -implicitDefEqProofs <;> omega) | fail) [wrap_i64, wrap_u64, wrap_u8, binV_shr, binV_shl, binV_rem, binV_quo, Int.fdiv_eq_ediv_of_nonneg, Int.tdiv_eq_ediv_of_nonneg, Int.tmod_eq_emod_of_nonneg, callG_body, idxAddr_arr, idxAddr_slc, St.alloc_old, St.alloc_at, St.put_other, St.alloc_put_old, St.alloc_put_new]
    refine f4xloop0 fun I hI => ?_
    have key : ∀ j i : Nat, i + j = top → ∀ (S : St) (ρ : Option Nat) (hs : List Hd), TreeR S (s.next + 2) ρ hs → (∀ m, Cov hs m ↔ Left ks ps i m) → s.next + 3 ≤ S.next → (∀ b, b < s.next → S.heap b = s.heap b) → (∀ b, ρ = some b → s.next ≤ b) →
        I vk vp (.int .u8 top) (.int .u8 n) (fv 11) (.pointer (some ⟨s.next + 2, 0, none⟩)) (.int .u64 (i + 1 : Nat)) S := by
      intro j
      induction j with
      | zero =>
        intro i hi S ρ hs hT hC hSn hSf hSρ
        refine hI _ _ _ _ _ _ _ _ ?_
        have e : i = top := by omega
        subst e
        have g1 : ¬ (i : Int) + 1 ≤ i := by omega
        have g2 : ¬ i + 1 ≤ i := by omega
        simp -implicitDefEqProofs (disch := first | omega | (simp -implicitDefEqProofs <;> omega) | fail) [wrap_i64, wrap_u64, wrap_u8, binV_shr, binV_shl, binV_rem, binV_quo, Int.fdiv_eq_ediv_of_nonneg, Int.tdiv_eq_ediv_of_nonneg, Int.tmod_eq_emod_of_nonneg, callG_body, idxAddr_arr, idxAddr_slc, St.alloc_old, St.alloc_at, St.put_other, St.alloc_put_old, St.alloc_put_new, f4xB0, g1, g2]
        rw [f4xE0x0xeq]
        simp -implicitDefEqProofs (disch := first | omega | (simp -implicitDefEqProofs <;> omega) | fail) [wrap_i64, wrap_u64, wrap_u8, binV_shr, binV_shl, binV_rem, binV_quo, Int.fdiv_eq_ediv_of_nonneg, Int.tdiv_eq_ediv_of_nonneg, Int.tmod_eq_emod_of_nonneg, callG_body, idxAddr_arr, idxAddr_slc, St.alloc_old, St.alloc_at, St.put_other, St.alloc_put_old, St.alloc_put_new, f4xE0x0, f4xJ11]
        refine Leaks_spec hl hT (Sl.kept hk ok hSf) (Sl.kept hp op hSf) (by omega) (by omega) (by omega) (ok.up (by omega)) (op.up (by omega)) fun v2 s2 ρ2 o2 n2 f2 => ?_
        have hcov2 : ∀ m, 1 ≤ m → m ≤ i → (Cov hs (2 * m) ↔ m ∈ ks) := fun m m1 m2 => by
          rw [hC]
          refine ⟨fun h => h.2.1 m m1 m2 rfl, fun h => ⟨by omega, fun y _ _ e => ?_, fun y _ _ e => by omega⟩⟩
          have : y = m := by omega
          exact this ▸ h
        have hcov3 : ∀ m, 1 ≤ m → m ≤ i → (Cov hs (2 * m + 1) ↔ m ∈ ps) := fun m m1 m2 => by
          rw [hC]
          refine ⟨fun h => h.2.2 m m1 m2 rfl, fun h => ⟨by omega, fun y _ _ e => by omega, fun y _ _ e => ?_⟩⟩
          have : y = m := by omega
          exact this ▸ h
        rw [leakL_none (fun m m1 m2 => by simp [hcov2 m m1 m2, hcov3 m m1 m2])] at o2
        have l2 := o2.sl.len (P := P) (t := 22) (s' := s2) y_P_underlying_22
        have f20 : ∀ b, b < s.next → s2.heap b = s.heap b := fun b hb => by rw [f2 b (by omega), hSf b hb]
        have hT2 := hT.same n2 f2
        obtain ⟨K, hK⟩ : ∃ K : Nat, K = 1 + n % 31 := ⟨_, rfl⟩
        have hKi : 1 + (n : Int) % 31 = K := by omega
        simp -implicitDefEqProofs (disch := first | omega | (simp -implicitDefEqProofs <;> omega) | fail) [wrap_i64, wrap_u64, wrap_u8, binV_shr, binV_shl, binV_rem, binV_quo, Int.fdiv_eq_ediv_of_nonneg, Int.tdiv_eq_ediv_of_nonneg, Int.tmod_eq_emod_of_nonneg, callG_body, idxAddr_arr, idxAddr_slc, St.alloc_old, St.alloc_at, St.put_other, St.alloc_put_old, St.alloc_put_new, l2, f4xJ10, hKi]
        refine f4xloop1 fun I2 hI2 => ?_
        have key2 : ∀ d j : Nat, j + d = ks.length → ∀ (v : Value) (ρ3 : Option Nat) (s3 : St), u64E.Own s3 v ρ3 ((ks.take j).filter fun x => !decide (x = K)) → s2.next ≤ s3.next → (∀ b, b < s2.next → s3.heap b = s2.heap b) → (∀ b, ρ3 = some b → s2.next ≤ b) →
            I2 vk vp (.int .u8 i) (fv 11) (.pointer (some ⟨s.next + 2, 0, none⟩)) (.int .u64 K) v (.int .i64 j) s3 := by
          intro d
          induction d with
          | zero =>
            intro j hj v ρ3 s3 o3 n3 f3 q3
            refine hI2 _ _ _ _ _ _ _ _ _ ?_
            have hnl : ¬ j < ks.length := by omega
            simp -implicitDefEqProofs (disch := first | omega | (simp -implicitDefEqProofs <;> omega) | fail) [wrap_i64, wrap_u64, wrap_u8, binV_shr, binV_shl, binV_rem, binV_quo, Int.fdiv_eq_ediv_of_nonneg, Int.tdiv_eq_ediv_of_nonneg, Int.tmod_eq_emod_of_nonneg, callG_body, idxAddr_arr, idxAddr_slc, St.alloc_old, St.alloc_at, St.put_other, St.alloc_put_old, St.alloc_put_new, f4xB1, lk, hnl]
            rw [f4xE1x2xeq]
            simp -implicitDefEqProofs (disch := first | omega | (simp -implicitDefEqProofs <;> omega) | fail) [wrap_i64, wrap_u64, wrap_u8, binV_shr, binV_shl, binV_rem, binV_quo, Int.fdiv_eq_ediv_of_nonneg, Int.tdiv_eq_ediv_of_nonneg, Int.tmod_eq_emod_of_nonneg, callG_body, idxAddr_arr, idxAddr_slc, St.alloc_old, St.alloc_at, St.put_other, St.alloc_put_old, St.alloc_put_new, f4xE1x2, f4xJ7]
            rw [List.take_of_length_le (by omega)] at o3
            have f30 : ∀ b, b < s.next → s3.heap b = s.heap b := fun b hb => by rw [f3 b (by omega), f20 b hb]
            have hov : Old s3 v := fun b o l c e => by
              subst e
              cases o3 with
              | row h _ _ => exact h
            have hfl : (ks.filter fun x => !decide (x = K)).length ≤ ks.length := List.length_filter_le _ _
            refine Leaks_spec hl (hT2.same n3 f3) o3.sl (Sl.kept hp op f30) (by omega) (by omega) (by omega) hov (op.up (by omega)) fun v4 s4 ρ4 o4 n4 f4 => ?_
            have f40 : ∀ b, b < s.next → s4.heap b = s.heap b := fun b hb => by rw [f4 b (by omega), f30 b hb]
            have hc : ∀ m, 1 ≤ m → m ≤ i → ((@decide (Cov hs (2 * m)) (Classical.propDecidable _) && !decide (m ∈ ks.filter fun x => !decide (x = K)) || @decide (Cov hs (2 * m + 1)) (Classical.propDecidable _) && !decide (m ∈ ps)) = true ↔ m ∈ ks ∧ m = K) := fun m m1 m2 => by
              simp only [hcov2 m m1 m2, hcov3 m m1 m2]
              by_cases a : m ∈ ks <;> by_cases b : m ∈ ps <;> by_cases c : m = K <;> simp [a, b, c]
            simp -implicitDefEqProofs (disch := first | omega | (simp -implicitDefEqProofs <;> omega) | fail) [wrap_i64, wrap_u64, wrap_u8, binV_shr, binV_shl, binV_rem, binV_quo, Int.fdiv_eq_ediv_of_nonneg, Int.tdiv_eq_ediv_of_nonneg, Int.tmod_eq_emod_of_nonneg, callG_body, idxAddr_arr, idxAddr_slc, St.alloc_old, St.alloc_at, St.put_other, St.alloc_put_old, St.alloc_put_new]
            refine keptHas_nat hl (n := K) rfl (Sl.kept hk ok f40) (by omega) ?_
            by_cases hkk : K ∈ ks ∧ K ≤ i
            · obtain ⟨k1, k2⟩ := hkk
              have hL := leakL_one (n := i) (k := K) (fun m m1 m2 => by rw [hc m m1 m2]; exact ⟨fun h => h.2, fun h => ⟨h ▸ k1, h⟩⟩) (by omega) k2
              rw [hL] at o4
              have k3 : (K : Int) ≤ i := by omega
              have hb : bslN (some (28, 1, 8, [.int .u64 0])) 1 #[(0, .int .u64 (K : Int))] = some (.cells [.int .u64 (K : Int)] false, .slc 1 1) := by
                simp [bslN, fillV, data, Instr.fill, Value.cells, zeros]
              simp -implicitDefEqProofs (disch := first | omega | (simp -implicitDefEqProofs <;> omega) | fail) [wrap_i64, wrap_u64, wrap_u8, binV_shr, binV_shl, binV_rem, binV_quo, Int.fdiv_eq_ediv_of_nonneg, Int.tdiv_eq_ediv_of_nonneg, Int.tmod_eq_emod_of_nonneg, callG_body, idxAddr_arr, idxAddr_slc, St.alloc_old, St.alloc_at, St.put_other, St.alloc_put_old, St.alloc_put_new, k1, k2, k3, hb]
              have hus : u64E.Sl (s4.alloc (.cells [.int .u64 (K : Int)] false)) (.slice (some ⟨s4.next, 0, none⟩) 1 1) [K] := .row (xs := [K]) ⟨[], [], false, by simp [Enc.row], rfl⟩
              refine Nums_spec hl (o4.same (by simp) (fun b hb => St.alloc_old (by subst hb; exact o4.lt))).sl hus (by simp) ?_
              simp -implicitDefEqProofs (disch := first | omega | (simp -implicitDefEqProofs <;> omega) | fail) [wrap_i64, wrap_u64, wrap_u8, binV_shr, binV_shl, binV_rem, binV_quo, Int.fdiv_eq_ediv_of_nonneg, Int.tdiv_eq_ediv_of_nonneg, Int.tmod_eq_emod_of_nonneg, callG_body, idxAddr_arr, idxAddr_slc, St.alloc_old, St.alloc_at, St.put_other, St.alloc_put_old, St.alloc_put_new]
              exact kEnd_old (fun b hb => by rw [St.alloc_old (by omega), f40 b hb]) (by simp) hq
            · have hL := leakL_none (n := i) (c := fun m => (@decide (Cov hs (2 * m)) (Classical.propDecidable _) && !decide (m ∈ ks.filter fun x => !decide (x = K)) || @decide (Cov hs (2 * m + 1)) (Classical.propDecidable _) && !decide (m ∈ ps))) (fun m m1 m2 => by
                have := hc m m1 m2
                cases hcc : (@decide (Cov hs (2 * m)) (Classical.propDecidable _) && !decide (m ∈ ks.filter fun x => !decide (x = K)) || @decide (Cov hs (2 * m + 1)) (Classical.propDecidable _) && !decide (m ∈ ps))
                · rfl
                · exact absurd (this.1 hcc) (fun h => hkk ⟨h.2 ▸ h.1, by omega⟩))
              rw [hL] at o4
              have l4 := o4.sl.len (P := P) (t := 22) (s' := s4) y_P_underlying_22
              have hfin : ∀ b : Bool, f4xJ6 (CC laidS) Q s v4 s4 := fun _ => by
                simp -implicitDefEqProofs (disch := first | omega | (simp -implicitDefEqProofs <;> omega) | fail) [wrap_i64, wrap_u64, wrap_u8, binV_shr, binV_shl, binV_rem, binV_quo, Int.fdiv_eq_ediv_of_nonneg, Int.tdiv_eq_ediv_of_nonneg, Int.tmod_eq_emod_of_nonneg, callG_body, idxAddr_arr, idxAddr_slc, St.alloc_old, St.alloc_at, St.put_other, St.alloc_put_old, St.alloc_put_new, f4xJ6, l4]
                exact kEnd_old (fun b hb => by rw [f40 b hb]) (by simp) hq
              by_cases k1 : K ∈ ks
              · have k2 : ¬ K ≤ i := fun h => hkk ⟨k1, h⟩
                have k3 : ¬ (K : Int) ≤ i := by omega
                simp -implicitDefEqProofs (disch := first | omega | (simp -implicitDefEqProofs <;> omega) | fail) [wrap_i64, wrap_u64, wrap_u8, binV_shr, binV_shl, binV_rem, binV_quo, Int.fdiv_eq_ediv_of_nonneg, Int.tdiv_eq_ediv_of_nonneg, Int.tmod_eq_emod_of_nonneg, callG_body, idxAddr_arr, idxAddr_slc, St.alloc_old, St.alloc_at, St.put_other, St.alloc_put_old, St.alloc_put_new, k1, k2, k3]
                exact hfin true
              · simp -implicitDefEqProofs (disch := first | omega | (simp -implicitDefEqProofs <;> omega) | fail) [wrap_i64, wrap_u64, wrap_u8, binV_shr, binV_shl, binV_rem, binV_quo, Int.fdiv_eq_ediv_of_nonneg, Int.tdiv_eq_ediv_of_nonneg, Int.tmod_eq_emod_of_nonneg, callG_body, idxAddr_arr, idxAddr_slc, St.alloc_old, St.alloc_at, St.put_other, St.alloc_put_old, St.alloc_put_new, k1]
                exact hfin true
          | succ d ih2 =>
            intro j hj v ρ3 s3 o3 n3 f3 q3
            refine hI2 _ _ _ _ _ _ _ _ _ ?_
            have hlt : j < ks.length := by omega
            have f30 : ∀ b, b < s.next → s3.heap b = s.heap b := fun b hb => by rw [f3 b (by omega), f20 b hb]
            have hkS := Sl.kept hk ok f30
            obtain ⟨b, o, cc, rfl, hA⟩ := hkS.ne (by intro e; simp [e] at hlt)
            have htk : ks.take (j + 1) = ks.take j ++ [ks[j]] := (List.take_append_getElem hlt).symm
            have hfl : ((ks.take j).filter fun x => !decide (x = K)).length < 1000000 := Nat.lt_of_le_of_lt (List.length_filter_le _ _) (by simp; omega)
            by_cases he : ks[j] = K
            · have he' : (ks[j] : Int) = K := by omega
              simp -implicitDefEqProofs (disch := first | omega | (simp -implicitDefEqProofs <;> omega) | fail) [wrap_i64, wrap_u64, wrap_u8, binV_shr, binV_shl, binV_rem, binV_quo, Int.fdiv_eq_ediv_of_nonneg, Int.tdiv_eq_ediv_of_nonneg, Int.tmod_eq_emod_of_nonneg, callG_body, idxAddr_arr, idxAddr_slc, St.alloc_old, St.alloc_at, St.put_other, St.alloc_put_old, St.alloc_put_new, f4xB1, lk, hlt, f4xJ5, hA.one hlt, he, he', f4xJ4]
              exact ih2 (j + 1) (by omega) v ρ3 s3 (by rw [htk, List.filter_append]; simpa [he] using o3) n3 f3 q3
            · have he' : ¬ (ks[j] : Int) = K := by omega
              simp -implicitDefEqProofs (disch := first | omega | (simp -implicitDefEqProofs <;> omega) | fail) [wrap_i64, wrap_u64, wrap_u8, binV_shr, binV_shl, binV_rem, binV_quo, Int.fdiv_eq_ediv_of_nonneg, Int.tdiv_eq_ediv_of_nonneg, Int.tmod_eq_emod_of_nonneg, callG_body, idxAddr_arr, idxAddr_slc, St.alloc_old, St.alloc_at, St.put_other, St.alloc_put_old, St.alloc_put_new, f4xB1, lk, hlt, f4xJ5, hA.one hlt, he, he']
              refine push_num (m := ks[j]) rfl o3 hfl fun v5 s5 ρ5 w1 w2 w3 w4 => ?_
              simp -implicitDefEqProofs (disch := first | omega | (simp -implicitDefEqProofs <;> omega) | fail) [wrap_i64, wrap_u64, wrap_u8, binV_shr, binV_shl, binV_rem, binV_quo, Int.fdiv_eq_ediv_of_nonneg, Int.tdiv_eq_ediv_of_nonneg, Int.tmod_eq_emod_of_nonneg, callG_body, idxAddr_arr, idxAddr_slc, St.alloc_old, St.alloc_at, St.put_other, St.alloc_put_old, St.alloc_put_new, f4xJ4]
              refine ih2 (j + 1) (by omega) v5 ρ5 s5 (by rw [htk, List.filter_append]; simpa [he] using w1) (by omega) (fun x hx => by rw [w4 x (by omega) (fun e => by have := q3 x e.symm; omega), f3 x hx]) (fun x hx => ?_)
              rcases w3 with h | ⟨y, h, hy⟩
              · exact q3 x (h ▸ hx)
              · rw [hx] at h; cases h; omega
        exact key2 ks.length 0 (by omega) (.slice none 0 0) none s2 .nil (Nat.le_refl _) (fun _ _ => rfl) (fun _ h => by cases h)
      | succ j ih =>
        intro i hi S ρ hs hT hC hSn hSf hSρ
        refine hI _ _ _ _ _ _ _ _ ?_
        have g1 : (i : Int) + 1 ≤ top := by omega
        have g2 : i + 1 ≤ top := by omega
        have g3 : i < top := by omega
        simp -implicitDefEqProofs (disch := first | omega | (simp -implicitDefEqProofs <;> omega) | fail) [wrap_i64, wrap_u64, wrap_u8, binV_shr, binV_shl, binV_rem, binV_quo, Int.fdiv_eq_ediv_of_nonneg, Int.tdiv_eq_ediv_of_nonneg, Int.tmod_eq_emod_of_nonneg, callG_body, idxAddr_arr, idxAddr_slc, St.alloc_old, St.alloc_at, St.put_other, St.alloc_put_old, St.alloc_put_new, f4xB0, g1, g2, g3, f4xJ3]
        have next : ∀ (S2 : St) (ρ2 : Option Nat) (hs2 : List Hd), TreeR S2 (s.next + 2) ρ2 hs2 → (∀ m, Cov hs2 m ↔ Left ks ps i m ∧ (m = 2 * (i + 1) → i + 1 ∈ ks)) → s.next + 3 ≤ S2.next → (∀ b, b < s.next → S2.heap b = s.heap b) → (∀ b, ρ2 = some b → s.next ≤ b) →
            f4xJ2 (CC laidS) (f4xK13 (CC laidS) Q s) I vk vp (.int .u8 top) (.int .u8 n) (fv 11) (.pointer (some ⟨s.next + 2, 0, none⟩)) (.int .u64 (i + 1 : Nat)) S2 := by
          intro S2 ρ2 hs2 hT2 hC2 hSn2 hSf2 hSρ2
          simp -implicitDefEqProofs (disch := first | omega | (simp -implicitDefEqProofs <;> omega) | fail) [wrap_i64, wrap_u64, wrap_u8, binV_shr, binV_shl, binV_rem, binV_quo, Int.fdiv_eq_ediv_of_nonneg, Int.tdiv_eq_ediv_of_nonneg, Int.tmod_eq_emod_of_nonneg, callG_body, idxAddr_arr, idxAddr_slc, St.alloc_old, St.alloc_at, St.put_other, St.alloc_put_old, St.alloc_put_new, f4xJ2]
          refine keptHas_nat hl (n := i + 1) (by omega) (Sl.kept hp op hSf2) (by omega) ?_
          have fin : ∀ (S3 : St) (ρ3 : Option Nat) (hs3 : List Hd), TreeR S3 (s.next + 2) ρ3 hs3 → (∀ m, Cov hs3 m ↔ Cov hs2 m ∧ (m = 2 * (i + 1) + 1 → i + 1 ∈ ps)) → s.next + 3 ≤ S3.next → (∀ b, b < s.next → S3.heap b = s.heap b) → (∀ b, ρ3 = some b → s.next ≤ b) →
              f4xJ1 (CC laidS) (f4xK13 (CC laidS) Q s) I vk vp (.int .u8 top) (.int .u8 n) (fv 11) (.pointer (some ⟨s.next + 2, 0, none⟩)) (.int .u64 (i + 1 : Nat)) S3 := by
            intro S3 ρ3 hs3 hT3 hC3 hSn3 hSf3 hSρ3
            simp -implicitDefEqProofs (disch := first | omega | (simp -implicitDefEqProofs <;> omega) | fail) [wrap_i64, wrap_u64, wrap_u8, binV_shr, binV_shl, binV_rem, binV_quo, Int.fdiv_eq_ediv_of_nonneg, Int.tdiv_eq_ediv_of_nonneg, Int.tmod_eq_emod_of_nonneg, callG_body, idxAddr_arr, idxAddr_slc, St.alloc_old, St.alloc_at, St.put_other, St.alloc_put_old, St.alloc_put_new, f4xJ1]
            refine ih (i + 1) (by omega) S3 ρ3 hs3 hT3 (fun m => ?_) hSn3 hSf3 hSρ3
            rw [hC3 m, hC2 m]
            constructor
            · rintro ⟨⟨⟨a1, a2, a3⟩, a4⟩, a5⟩
              refine ⟨a1, fun y y1 y2 y3 => ?_, fun y y1 y2 y3 => ?_⟩
              · by_cases e : y = i + 1
                · subst e; exact a4 y3
                · exact a2 y y1 (by omega) y3
              · by_cases e : y = i + 1
                · subst e; exact a5 y3
                · exact a3 y y1 (by omega) y3
            · rintro ⟨a1, a2, a3⟩
              exact ⟨⟨⟨a1, fun y y1 y2 y3 => a2 y y1 (by omega) y3, fun y y1 y2 y3 => a3 y y1 (by omega) y3⟩, fun e => a2 (i + 1) (by omega) (by omega) e⟩, fun e => a3 (i + 1) (by omega) (by omega) e⟩
          by_cases hm : i + 1 ∈ ps
          · simp -implicitDefEqProofs (disch := first | omega | (simp -implicitDefEqProofs <;> omega) | fail) [wrap_i64, wrap_u64, wrap_u8, binV_shr, binV_shl, binV_rem, binV_quo, Int.fdiv_eq_ediv_of_nonneg, Int.tdiv_eq_ediv_of_nonneg, Int.tmod_eq_emod_of_nonneg, callG_body, idxAddr_arr, idxAddr_slc, St.alloc_old, St.alloc_at, St.put_other, St.alloc_put_old, St.alloc_put_new, hm]
            exact fin S2 ρ2 hs2 hT2 (fun m => ⟨fun h => ⟨h, fun _ => hm⟩, fun h => h.1⟩) hSn2 hSf2 hSρ2
          · simp -implicitDefEqProofs (disch := first | omega | (simp -implicitDefEqProofs <;> omega) | fail) [wrap_i64, wrap_u64, wrap_u8, binV_shr, binV_shl, binV_rem, binV_quo, Int.fdiv_eq_ediv_of_nonneg, Int.tdiv_eq_ediv_of_nonneg, Int.tmod_eq_emod_of_nonneg, callG_body, idxAddr_arr, idxAddr_slc, St.alloc_old, St.alloc_at, St.put_other, St.alloc_put_old, St.alloc_put_new, hm]
            refine Token_call hl (n := i + 1) (by omega) (by omega) ?_
            simp -implicitDefEqProofs (disch := first | omega | (simp -implicitDefEqProofs <;> omega) | fail) [wrap_i64, wrap_u64, wrap_u8, binV_shr, binV_shl, binV_rem, binV_quo, Int.fdiv_eq_ediv_of_nonneg, Int.tdiv_eq_ediv_of_nonneg, Int.tmod_eq_emod_of_nonneg, callG_body, idxAddr_arr, idxAddr_slc, St.alloc_old, St.alloc_at, St.put_other, St.alloc_put_old, St.alloc_put_new]
            refine Puncture_spec (n := 2 * (i + 1) + 1) (by omega) hT2 fun u s3 ρ3 hs3 t3 c3 n3 q3 f3 => ?_
            refine fin s3 ρ3 hs3 t3 (fun m => ?_) (by omega) (fun b hb => by rw [f3 b (by omega) (by omega) (fun e => by have := hSρ2 b e.symm; omega), hSf2 b hb]) (fun b hb => ?_)
            · rw [c3 m]
              exact ⟨fun h => ⟨h.1, fun e => absurd e h.2⟩, fun h => ⟨h.1, fun e => hm (h.2 e)⟩⟩
            · rcases q3 with h | ⟨y, h, hy⟩
              · exact hSρ2 b (h ▸ hb)
              · rw [hb] at h; cases h; omega
        refine keptHas_nat hl (n := i + 1) (by omega) (Sl.kept hk ok hSf) (by omega) ?_
        by_cases hm : i + 1 ∈ ks
        · simp -implicitDefEqProofs (disch := first | omega | (simp -implicitDefEqProofs <;> omega) | fail) [wrap_i64, wrap_u64, wrap_u8, binV_shr, binV_shl, binV_rem, binV_quo, Int.fdiv_eq_ediv_of_nonneg, Int.tdiv_eq_ediv_of_nonneg, Int.tmod_eq_emod_of_nonneg, callG_body, idxAddr_arr, idxAddr_slc, St.alloc_old, St.alloc_at, St.put_other, St.alloc_put_old, St.alloc_put_new, hm]
          exact next S ρ hs hT (fun m => by rw [hC m]; exact ⟨fun h => ⟨h, fun _ => hm⟩, fun h => h.1⟩) hSn hSf hSρ
        · simp -implicitDefEqProofs (disch := first | omega | (simp -implicitDefEqProofs <;> omega) | fail) [wrap_i64, wrap_u64, wrap_u8, binV_shr, binV_shl, binV_rem, binV_quo, Int.fdiv_eq_ediv_of_nonneg, Int.tdiv_eq_ediv_of_nonneg, Int.tmod_eq_emod_of_nonneg, callG_body, idxAddr_arr, idxAddr_slc, St.alloc_old, St.alloc_at, St.put_other, St.alloc_put_old, St.alloc_put_new, hm]
          refine Leaf_call hl (n := i + 1) (by omega) (by omega) ?_
          simp -implicitDefEqProofs (disch := first | omega | (simp -implicitDefEqProofs <;> omega) | fail) [wrap_i64, wrap_u64, wrap_u8, binV_shr, binV_shl, binV_rem, binV_quo, Int.fdiv_eq_ediv_of_nonneg, Int.tdiv_eq_ediv_of_nonneg, Int.tmod_eq_emod_of_nonneg, callG_body, idxAddr_arr, idxAddr_slc, St.alloc_old, St.alloc_at, St.put_other, St.alloc_put_old, St.alloc_put_new]
          refine Puncture_spec (n := 2 * (i + 1)) (by omega) hT fun u s3 ρ3 hs3 t3 c3 n3 q3 f3 => ?_
          refine next s3 ρ3 hs3 t3 (fun m => ?_) (by omega) (fun b hb => by rw [f3 b (by omega) (by omega) (fun e => by have := hSρ b e.symm; omega), hSf b hb]) (fun b hb => ?_)
          · rw [c3 m, hC m]
            exact ⟨fun h => ⟨h.1, fun e => absurd e h.2⟩, fun h => ⟨h.1, fun e => hm (h.2 e)⟩⟩
          · rcases q3 with h | ⟨y, h, hy⟩
            · exact hSρ b (h ▸ hb)
            · rw [hb] at h; cases h; omega
    exact key top 0 (by omega) s1 ρ1 _ t1 (fun m => by rw [cov_new]; exact ⟨fun h => ⟨h, fun y a b => by omega, fun y a b => by omega⟩, fun h => h.1⟩) (by omega) h3 h1

end Go.Zz
