/- The law CheckLeaks, walked. -/
import Derived.Test.YtcjoihkdaoflfaaWl
set_option linter.all false
namespace Go.Zz
open Go

/-- A slice that came in: where it lies. -/
def Old (s : St) (v : Value) : Prop := ∀ b o l c, v = .slice (some ⟨b, o, none⟩) l c → b < s.next
theorem Sl.kept {v : Value} {ns : List Nat} {s S : St} (h : u64E.Sl s v ns) (hn : Old s v) (hf : ∀ b, b < s.next → S.heap b = s.heap b) : u64E.Sl S v ns := by
  cases h with
  | nil => exact .nil
  | empty => exact .empty
  | row h => exact .row (h.same (hf _ (hn _ _ _ _ rfl)))
theorem Old.up {v : Value} {s S : St} (h : Old s v) (hn : s.next ≤ S.next) : Old S v := fun b o l c e => Nat.lt_of_lt_of_le (h b o l c e) hn

theorem nilLeaks_spec {laid : Laid} (hl : Bare laid) {vk vp t : Value} {Q : Post} {s : St} (h : Q (.slice none 0 0) s) : CC laid 9 [.pointer none, vk, vp, t] Q s := by
  refine calls_body (hl 9 (by decide)) ?_
  rw [f9xeq, f9xS]
  have hpn0 : binV P .eql 24 (.pointer none) (.pointer none) = some (.bool true) := by simp [binV, eqOp]
  simp -implicitDefEqProofs (disch := first | omega | (simp -implicitDefEqProofs <;> omega) | fail) [wrap_i64, wrap_u64, wrap_u8, binV_shr, binV_shl, binV_rem, binV_quo, Int.fdiv_eq_ediv_of_nonneg, Int.tdiv_eq_ediv_of_nonneg, Int.tmod_eq_emod_of_nonneg, callG_body, idxAddr_arr, idxAddr_slc, St.alloc_old, St.alloc_at, St.put_other, St.alloc_put_old, St.alloc_put_new, hpn0]
  exact h

set_option maxRecDepth 20000 in
theorem CheckLeaks_spec {vg vk vp : Value} {gs ks ps : List Nat} {top : Nat} {Q : Post} {s : St} (hg : u64E.Sl s vg gs) (hk : u64E.Sl s vk ks) (hp : u64E.Sl s vp ps) (og : Old s vg) (ok : Old s vk) (op : Old s vp)
    (hgm : ∀ m ∈ gs, m < 18446744073709551616) (htop : top < 256) (hq : Q (.bool true) s) : CC laidS 3 [vg, vk, vp, .int .u8 top] Q s := by
  have hl := laidS_bare
  refine calls_body (hl 3 (by decide)) ?_
  rw [f3xeq, f3xS]
  have lg := fun s' => hg.len (P := P) (t := 22) (s' := s') y_P_underlying_22
  have lk := fun s' => hk.len (P := P) (t := 22) (s' := s') y_P_underlying_22
  have lp := fun s' => hp.len (P := P) (t := 22) (s' := s') y_P_underlying_22
  simp -implicitDefEqProofs (disch := first | omega | (simp -implicitDefEqProofs <;> omega) | fail) [wrap_i64, wrap_u64, wrap_u8, binV_shr, binV_shl, binV_rem, binV_quo, Int.fdiv_eq_ediv_of_nonneg, Int.tdiv_eq_ediv_of_nonneg, Int.tmod_eq_emod_of_nonneg, callG_body, idxAddr_arr, idxAddr_slc, St.alloc_old, St.alloc_at, St.put_other, St.alloc_put_old, St.alloc_put_new]
  refine awake_spec ?_
  simp -implicitDefEqProofs (disch := first | omega | (simp -implicitDefEqProofs <;> omega) | fail) [wrap_i64, wrap_u64, wrap_u8, binV_shr, binV_shl, binV_rem, binV_quo, Int.fdiv_eq_ediv_of_nonneg, Int.tdiv_eq_ediv_of_nonneg, Int.tmod_eq_emod_of_nonneg, callG_body, idxAddr_arr, idxAddr_slc, St.alloc_old, St.alloc_at, St.put_other, St.alloc_put_old, St.alloc_put_new, f3xJ7, lg, lk, lp]
  split
  · exact hq
  · rename_i hlim
    simp only [Bool.or_eq_true, decide_eq_true_eq, not_or] at hlim
    simp -implicitDefEqProofs (disch := first | omega | (simp -implicitDefEqProofs <;> omega) | fail) [wrap_i64, wrap_u64, wrap_u8, binV_shr, binV_shl, binV_rem, binV_quo, Int.fdiv_eq_ediv_of_nonneg, Int.tdiv_eq_ediv_of_nonneg, Int.tmod_eq_emod_of_nonneg, callG_body, idxAddr_arr, idxAddr_slc, St.alloc_old, St.alloc_at, St.put_other, St.alloc_put_old, St.alloc_put_new, f3xJ6, build_lit, mkIf, build_key1]
    refine New_spec hl fun s1 ρ1 t1 h1 h2 h3 => ?_
    simp -implicitDefEqProofs (disch := first | omega | (simp -implicitDefEqProofs <;> omega) | fail) [wrap_i64, wrap_u64, wrap_u8, binV_shr, binV_shl, binV_rem, binV_quo, Int.fdiv_eq_ediv_of_nonneg, Int.tdiv_eq_ediv_of_nonneg, Int.tmod_eq_emod_of_nonneg, callG_body, idxAddr_arr, idxAddr_slc, St.alloc_old, St.alloc_at, St.put_other, St.alloc_put_old, St.alloc_put_new]
    refine f3xloop0 fun I hI => ?_
    have key : ∀ k i : Nat, i + k = gs.length → ∀ (S : St) (ρ : Option Nat) (hs : List Hd), TreeR S (s.next + 2) ρ hs → (∀ m, Cov hs m ↔ m < 131072 ∧ m ∉ gs.take i) → s.next + 3 ≤ S.next → (∀ b, b < s.next → S.heap b = s.heap b) → (∀ b, ρ = some b → s.next ≤ b) →
        I vg vk vp (.int .u8 top) (.pointer (some ⟨s.next + 2, 0, none⟩)) (.int .i64 i) S := by
      intro k
      induction k with
      | zero =>
        intro i hi S ρ hs hT hC hSn hSf hSρ
        refine hI _ _ _ _ _ _ _ ?_
        have hnl : ¬ i < gs.length := by omega
        simp -implicitDefEqProofs (disch := first | omega | (simp -implicitDefEqProofs <;> omega) | fail) [wrap_i64, wrap_u64, wrap_u8, binV_shr, binV_shl, binV_rem, binV_quo, Int.fdiv_eq_ediv_of_nonneg, Int.tdiv_eq_ediv_of_nonneg, Int.tmod_eq_emod_of_nonneg, callG_body, idxAddr_arr, idxAddr_slc, St.alloc_old, St.alloc_at, St.put_other, St.alloc_put_old, St.alloc_put_new, f3xB0, lg, hnl]
        rw [f3xE0x0xeq]
        simp -implicitDefEqProofs (disch := first | omega | (simp -implicitDefEqProofs <;> omega) | fail) [wrap_i64, wrap_u64, wrap_u8, binV_shr, binV_shl, binV_rem, binV_quo, Int.fdiv_eq_ediv_of_nonneg, Int.tdiv_eq_ediv_of_nonneg, Int.tmod_eq_emod_of_nonneg, callG_body, idxAddr_arr, idxAddr_slc, St.alloc_old, St.alloc_at, St.put_other, St.alloc_put_old, St.alloc_put_new, f3xE0x0, f3xJ3]
        refine Leaks_spec hl hT (Sl.kept hk ok hSf) (Sl.kept hp op hSf) (by omega) (by omega) (by omega) (ok.up (by omega)) (op.up (by omega)) fun v2 s2 ρ2 o2 n2 f2 => ?_
        have f20 : ∀ b, b < s.next → s2.heap b = s.heap b := fun b hb => by rw [f2 b (by omega), hSf b hb]
        simp -implicitDefEqProofs (disch := first | omega | (simp -implicitDefEqProofs <;> omega) | fail) [wrap_i64, wrap_u64, wrap_u8, binV_shr, binV_shl, binV_rem, binV_quo, Int.fdiv_eq_ediv_of_nonneg, Int.tdiv_eq_ediv_of_nonneg, Int.tmod_eq_emod_of_nonneg, callG_body, idxAddr_arr, idxAddr_slc, St.alloc_old, St.alloc_at, St.put_other, St.alloc_put_old, St.alloc_put_new]
        refine refLeaks_spec hl (Sl.kept hg og f20) (Sl.kept hk ok f20) (Sl.kept hp op f20) (by omega) (by omega) (by omega) (by omega) (og.up (by omega)) (ok.up (by omega)) (op.up (by omega)) fun v3 s3 ρ3 o3 n3 f3 => ?_
        have hsame : leakL (fun n => @decide (Cov hs (2 * n)) (Classical.propDecidable _) && !decide (n ∈ ks) || @decide (Cov hs (2 * n + 1)) (Classical.propDecidable _) && !decide (n ∈ ps)) top =
            leakL (fun n => !decide (2 * n ∈ gs) && !decide (n ∈ ks) || !decide (2 * n + 1 ∈ gs) && !decide (n ∈ ps)) top := by
          unfold leakL
          refine List.filter_congr fun n hn => ?_
          obtain ⟨m, hm, rfl⟩ := List.mem_map.1 hn
          have hm := List.mem_range.1 hm
          have e : gs.take i = gs := List.take_of_length_le (by omega)
          rw [e] at hC
          have e1 : Cov hs (2 * (m + 1)) ↔ ¬ 2 * (m + 1) ∈ gs := by rw [hC]; exact ⟨fun h => h.2, fun h => ⟨by omega, h⟩⟩
          have e2 : Cov hs (2 * (m + 1) + 1) ↔ ¬ 2 * (m + 1) + 1 ∈ gs := by rw [hC]; exact ⟨fun h => h.2, fun h => ⟨by omega, h⟩⟩
          simp only [e1, e2]
          by_cases a : 2 * (m + 1) ∈ gs <;> by_cases b : 2 * (m + 1) + 1 ∈ gs <;> simp [a, b]
        simp -implicitDefEqProofs (disch := first | omega | (simp -implicitDefEqProofs <;> omega) | fail) [wrap_i64, wrap_u64, wrap_u8, binV_shr, binV_shl, binV_rem, binV_quo, Int.fdiv_eq_ediv_of_nonneg, Int.tdiv_eq_ediv_of_nonneg, Int.tmod_eq_emod_of_nonneg, callG_body, idxAddr_arr, idxAddr_slc, St.alloc_old, St.alloc_at, St.put_other, St.alloc_put_old, St.alloc_put_new]
        refine Nums_spec hl (o2.same n3 (fun b hb => f3 b (by subst hb; exact o2.lt))).sl o3.sl (Nat.lt_of_le_of_lt (leakL_len _ _) (by omega)) ?_
        rw [decide_eq_true hsame]
        simp -implicitDefEqProofs (disch := first | omega | (simp -implicitDefEqProofs <;> omega) | fail) [wrap_i64, wrap_u64, wrap_u8, binV_shr, binV_shl, binV_rem, binV_quo, Int.fdiv_eq_ediv_of_nonneg, Int.tdiv_eq_ediv_of_nonneg, Int.tmod_eq_emod_of_nonneg, callG_body, idxAddr_arr, idxAddr_slc, St.alloc_old, St.alloc_at, St.put_other, St.alloc_put_old, St.alloc_put_new]
        refine nilLeaks_spec hl ?_
        simp -implicitDefEqProofs (disch := first | omega | (simp -implicitDefEqProofs <;> omega) | fail) [wrap_i64, wrap_u64, wrap_u8, binV_shr, binV_shl, binV_rem, binV_quo, Int.fdiv_eq_ediv_of_nonneg, Int.tdiv_eq_ediv_of_nonneg, Int.tmod_eq_emod_of_nonneg, callG_body, idxAddr_arr, idxAddr_slc, St.alloc_old, St.alloc_at, St.put_other, St.alloc_put_old, St.alloc_put_new]
        exact kEnd_old (fun b hb => by rw [f3 b (by omega), f20 b hb]) (by simp) hq
      | succ k ih =>
        intro i hi S ρ hs hT hC hSn hSf hSρ
        refine hI _ _ _ _ _ _ _ ?_
        have hlt : i < gs.length := by omega
        have hgS := Sl.kept hg og hSf
        obtain ⟨b, o, cc, rfl, hA⟩ := hgS.ne (by intro e; simp [e] at hlt)
        simp -implicitDefEqProofs (disch := first | omega | (simp -implicitDefEqProofs <;> omega) | fail) [wrap_i64, wrap_u64, wrap_u8, binV_shr, binV_shl, binV_rem, binV_quo, Int.fdiv_eq_ediv_of_nonneg, Int.tdiv_eq_ediv_of_nonneg, Int.tmod_eq_emod_of_nonneg, callG_body, idxAddr_arr, idxAddr_slc, St.alloc_old, St.alloc_at, St.put_other, St.alloc_put_old, St.alloc_put_new, f3xB0, lg, hlt, f3xJ2, hA.one hlt]
        refine Puncture_spec (hgm _ (List.getElem_mem hlt)) hT fun u s2 ρ2 hs2 t2 c2 n2 g2 f2 => ?_
        simp -implicitDefEqProofs (disch := first | omega | (simp -implicitDefEqProofs <;> omega) | fail) [wrap_i64, wrap_u64, wrap_u8, binV_shr, binV_shl, binV_rem, binV_quo, Int.fdiv_eq_ediv_of_nonneg, Int.tdiv_eq_ediv_of_nonneg, Int.tmod_eq_emod_of_nonneg, callG_body, idxAddr_arr, idxAddr_slc, St.alloc_old, St.alloc_at, St.put_other, St.alloc_put_old, St.alloc_put_new, f3xJ1]
        refine ih (i + 1) (by omega) s2 ρ2 hs2 t2 (fun m => ?_) (by omega) (fun b hb => by rw [f2 b (by omega) (by omega) (fun e => by have := hSρ b e.symm; omega), hSf b hb]) (fun b hb => ?_)
        · rw [c2 m, hC m, (List.take_append_getElem hlt).symm, List.mem_append, List.mem_singleton, not_or, and_assoc]
        · rcases g2 with h | ⟨y, h, hy⟩
          · exact hSρ b (h ▸ hb)
          · rw [hb] at h; cases h; omega
    exact key gs.length 0 (by omega) s1 ρ1 _ t1 (fun m => by rw [cov_new]; simp) (by omega) h3 h1

end Go.Zz
