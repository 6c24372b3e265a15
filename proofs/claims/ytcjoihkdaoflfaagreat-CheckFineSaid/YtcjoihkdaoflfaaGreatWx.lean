/- The law CheckFine, walked. -/
import Derived.Test.YtcjoihkdaoflfaaGreatWl
set_option linter.all false
set_option maxRecDepth 20000
namespace Go.Zz
open Go

variable {laid : Laid}

theorem All_spec (hl : Bare laid) {a : Option Addr} {Q : Post} {s : St} (hq : Q (.agg #[.int .i64 0, .int .i64 0, .int .i64 0, .int .i64 0]) s) : CC laid 6 [.pointer none, .pointer a] Q s := by
  refine calls_body (hl 6 (by decide)) ?_
  rw [f6xeq, f6xS]
  have h0 : binV P .eql 45 (.pointer none) (.pointer none) = some (.bool true) := by simp [binV, eqOp]
  simp -implicitDefEqProofs (disch := first | omega | (simp -implicitDefEqProofs <;> omega) | fail) [wrap_i64, wrap_u64, wrap_u8, binV_shr, binV_shl, binV_rem, binV_quo, Int.fdiv_eq_ediv_of_nonneg, Int.tdiv_eq_ediv_of_nonneg, Int.tmod_eq_emod_of_nonneg, callG_body, idxAddr_arr, idxAddr_slc, St.alloc_old, St.alloc_at, St.put_other, St.alloc_put_old, St.alloc_put_new, boxN, zeroN, h0]
  exact kEnd_old (fun b hb => by simp -implicitDefEqProofs (disch := first | omega | (simp -implicitDefEqProofs <;> omega) | fail) [wrap_i64, wrap_u64, wrap_u8, binV_shr, binV_shl, binV_rem, binV_quo, Int.fdiv_eq_ediv_of_nonneg, Int.tdiv_eq_ediv_of_nonneg, Int.tmod_eq_emod_of_nonneg, callG_body, idxAddr_arr, idxAddr_slc, St.alloc_old, St.alloc_at, St.put_other, St.alloc_put_old, St.alloc_put_new]) (by simp) hq

def setupC : List Value := [.int .i64 5, .int .i64 4, .int .i64 2, .int .i64 3] ++ (u8s (7 :: zs 31) ++ [.slice none 0 0, .bool false])
theorem build_setup : buildV P 33 #[(0, .int .i64 5), (1, .int .i64 4), (2, .int .i64 2), (3, .int .i64 3), (5, .slice none 0 0), (6, .bool false), (4, .agg (u8s (7 :: zs 31)).toArray)] = some (.agg setupC.toArray) := by kernel_rfl
theorem build_key7 : buildV P 30 #[(0, .int .u8 7)] = some (.agg (u8s (7 :: zs 31)).toArray) := by kernel_rfl

theorem setupC_len : setupC.length = 38 := rfl
theorem lwr_full {l c : List Value} (h : l.length = c.length) : lwr l 0 c = c := by simp [lwr, ← h]

theorem Setup_spec (hl : Bare laid) {Q : Post} {s : St} (hq : Q (.agg setupC.toArray) s) : CC laid 8 [.slice none 0 0, .bool false] Q s := by
  refine calls_body (hl 8 (by decide)) ?_
  rw [f8xeq, f8xS]
  simp -implicitDefEqProofs (disch := first | omega | (simp -implicitDefEqProofs <;> omega) | fail) [wrap_i64, wrap_u64, wrap_u8, binV_shr, binV_shl, binV_rem, binV_quo, Int.fdiv_eq_ediv_of_nonneg, Int.tdiv_eq_ediv_of_nonneg, Int.tmod_eq_emod_of_nonneg, callG_body, idxAddr_arr, idxAddr_slc, St.alloc_old, St.alloc_at, St.put_other, St.alloc_put_old, St.alloc_put_new, zeroN, build_key7, build_setup, setupC_len]
  have lw : ∀ L : List Value, L.length = 38 → lwr L 0 setupC = setupC := fun L h => lwr_full (by rw [h]; rfl)
  have e : List.take 38 setupC = setupC := rfl
  rw [lw]
  · simp -implicitDefEqProofs (disch := first | omega | (simp -implicitDefEqProofs <;> omega) | fail) [wrap_i64, wrap_u64, wrap_u8, binV_shr, binV_shl, binV_rem, binV_quo, Int.fdiv_eq_ediv_of_nonneg, Int.tdiv_eq_ediv_of_nonneg, Int.tmod_eq_emod_of_nonneg, callG_body, idxAddr_arr, idxAddr_slc, St.alloc_old, St.alloc_at, St.put_other, St.alloc_put_old, St.alloc_put_new, e, setupC_len]
    exact kEnd_old (fun b hb => by simp -implicitDefEqProofs (disch := first | omega | (simp -implicitDefEqProofs <;> omega) | fail) [wrap_i64, wrap_u64, wrap_u8, binV_shr, binV_shl, binV_rem, binV_quo, Int.fdiv_eq_ediv_of_nonneg, Int.tdiv_eq_ediv_of_nonneg, Int.tmod_eq_emod_of_nonneg, callG_body, idxAddr_arr, idxAddr_slc, St.alloc_old, St.alloc_at, St.put_other, St.alloc_put_old, St.alloc_put_new]) (by simp [setupC, u8s, zs, List.replicate]) hq
  · rfl

theorem MomNew_spec (hl : Bare laid) {Q : Post} {s : St} (hq : Q (.pointer (some ⟨s.next, 0, none⟩)) (s.alloc (.cells [.slice none 0 0] false))) : CC laid 28 [] Q s := by
  have hb : buildV P 149 #[] = some (.agg #[.slice none 0 0]) := by kernel_rfl
  refine calls_body (hl 28 (by decide)) ?_
  rw [f28xeq, f28xS]
  simp -implicitDefEqProofs (disch := first | omega | (simp -implicitDefEqProofs <;> omega) | fail) [wrap_i64, wrap_u64, wrap_u8, binV_shr, binV_shl, binV_rem, binV_quo, Int.fdiv_eq_ediv_of_nonneg, Int.tdiv_eq_ediv_of_nonneg, Int.tmod_eq_emod_of_nonneg, callG_body, idxAddr_arr, idxAddr_slc, St.alloc_old, St.alloc_at, St.put_other, St.alloc_put_old, St.alloc_put_new, hb, boxN]
  exact kEnd_keep hq
theorem HoldNew_spec (hl : Bare laid) {Q : Post} {s : St} (hq : Q (.pointer (some ⟨s.next, 0, none⟩)) (s.alloc (.cells [.slice none 0 0] false))) : CC laid 29 [] Q s := by
  have hb : buildV P 152 #[] = some (.agg #[.slice none 0 0]) := by kernel_rfl
  refine calls_body (hl 29 (by decide)) ?_
  rw [f29xeq, f29xS]
  simp -implicitDefEqProofs (disch := first | omega | (simp -implicitDefEqProofs <;> omega) | fail) [wrap_i64, wrap_u64, wrap_u8, binV_shr, binV_shl, binV_rem, binV_quo, Int.fdiv_eq_ediv_of_nonneg, Int.tdiv_eq_ediv_of_nonneg, Int.tmod_eq_emod_of_nonneg, callG_body, idxAddr_arr, idxAddr_slc, St.alloc_old, St.alloc_at, St.put_other, St.alloc_put_old, St.alloc_put_new, hb, boxN]
  exact kEnd_keep hq
noncomputable def forestC : List Value := match buildV P 157 #[] with
  | some (.agg cs) => cs.toList
  | _ => []
theorem build_forest : buildV P 157 #[] = some (.agg forestC.toArray) := by kernel_rfl
theorem BrNew_spec (hl : Bare laid) {Q : Post} {s : St} (hq : ∀ cs : List Value, Q (.pointer (some ⟨s.next, 0, none⟩)) (s.alloc (.cells cs false))) : CC laid 30 [] Q s := by
  refine calls_body (hl 30 (by decide)) ?_
  rw [f30xeq, f30xS]
  simp -implicitDefEqProofs (disch := first | omega | (simp -implicitDefEqProofs <;> omega) | fail) [wrap_i64, wrap_u64, wrap_u8, binV_shr, binV_shl, binV_rem, binV_quo, Int.fdiv_eq_ediv_of_nonneg, Int.tdiv_eq_ediv_of_nonneg, Int.tmod_eq_emod_of_nonneg, callG_body, idxAddr_arr, idxAddr_slc, St.alloc_old, St.alloc_at, St.put_other, St.alloc_put_old, St.alloc_put_new, build_forest, boxN]
  exact kEnd_keep (hq forestC)

theorem Compile_nil (hl : Bare laid) {Q : Post} {s : St} (hq : ∀ s', (∀ b, b < s.next → s'.heap b = s.heap b) → s.next ≤ s'.next → Q (.tuple #[.agg #[.slice none 0 0, .int .i64 0, .bool false], .int .i64 0]) s') : CC laid 27 [.slice none 0 0] Q s := by
  have hb : buildV P 68 #[] = some (.agg #[.slice none 0 0, .int .i64 0, .bool false]) := by kernel_rfl
  refine calls_body (hl 27 (by decide)) ?_
  rw [f27xeq, f27xS]
  have hlen : ∀ s, lenR P 31 (.slice none 0 0) s = some (.int .i64 0) := fun s => by simp [lenR, lenV]
  simp -implicitDefEqProofs (disch := first | omega | (simp -implicitDefEqProofs <;> omega) | fail) [wrap_i64, wrap_u64, wrap_u8, binV_shr, binV_shl, binV_rem, binV_quo, Int.fdiv_eq_ediv_of_nonneg, Int.tdiv_eq_ediv_of_nonneg, Int.tmod_eq_emod_of_nonneg, callG_body, idxAddr_arr, idxAddr_slc, St.alloc_old, St.alloc_at, St.put_other, St.alloc_put_old, St.alloc_put_new, hb, boxN, zeroN, hlen, f27xJ8]
  refine f27xloop0 fun I hI => ?_
  refine hI _ _ _ _ _ _ _ ?_
  simp -implicitDefEqProofs (disch := first | omega | (simp -implicitDefEqProofs <;> omega) | fail) [wrap_i64, wrap_u64, wrap_u8, binV_shr, binV_shl, binV_rem, binV_quo, Int.fdiv_eq_ediv_of_nonneg, Int.tdiv_eq_ediv_of_nonneg, Int.tmod_eq_emod_of_nonneg, callG_body, idxAddr_arr, idxAddr_slc, St.alloc_old, St.alloc_at, St.put_other, St.alloc_put_old, St.alloc_put_new, f27xB0]
  rw [f27xE0x0xeq]
  simp -implicitDefEqProofs (disch := first | omega | (simp -implicitDefEqProofs <;> omega) | fail) [wrap_i64, wrap_u64, wrap_u8, binV_shr, binV_shl, binV_rem, binV_quo, Int.fdiv_eq_ediv_of_nonneg, Int.tdiv_eq_ediv_of_nonneg, Int.tmod_eq_emod_of_nonneg, callG_body, idxAddr_arr, idxAddr_slc, St.alloc_old, St.alloc_at, St.put_other, St.alloc_put_old, St.alloc_put_new, f27xE0x0, f27xJ5]
  refine kEnd_keep (hq _ (fun b hb => ?_) (by simp; omega))
  simp -implicitDefEqProofs (disch := first | omega | (simp -implicitDefEqProofs <;> omega) | fail) [wrap_i64, wrap_u64, wrap_u8, binV_shr, binV_shl, binV_rem, binV_quo, Int.fdiv_eq_ediv_of_nonneg, Int.tdiv_eq_ediv_of_nonneg, Int.tmod_eq_emod_of_nonneg, callG_body, idxAddr_arr, idxAddr_slc, St.alloc_old, St.alloc_at, St.put_other, St.alloc_put_old, St.alloc_put_new]

theorem TruthNew_spec (hl : Bare laid) {Q : Post} {s : St} (hq : ∀ a s', (∀ b, b < s.next → s'.heap b = s.heap b) → s.next ≤ s'.next → Q (.pointer a) s') : CC laid 7 [.agg setupC.toArray] Q s := by
  refine calls_body (hl 7 (by decide)) ?_
  rw [f7xeq, f7xS]
  have g5 : setupC[36]? = some (.slice none 0 0) := rfl
  have g2 : setupC[2]? = some (.int .i64 2) := rfl
  have g3 : setupC[3]? = some (.int .i64 3) := rfl
  simp -implicitDefEqProofs (disch := first | omega | (simp -implicitDefEqProofs <;> omega) | fail) [wrap_i64, wrap_u64, wrap_u8, binV_shr, binV_shl, binV_rem, binV_quo, Int.fdiv_eq_ediv_of_nonneg, Int.tdiv_eq_ediv_of_nonneg, Int.tmod_eq_emod_of_nonneg, callG_body, idxAddr_arr, idxAddr_slc, St.alloc_old, St.alloc_at, St.put_other, St.alloc_put_old, St.alloc_put_new, boxN, setupC_len, g5]
  refine Compile_nil hl fun S hS hn => ?_
  have hS0 : S.heap s.next = some (.cells setupC false) := by rw [hS _ (by simp)]; simp -implicitDefEqProofs (disch := first | omega | (simp -implicitDefEqProofs <;> omega) | fail) [wrap_i64, wrap_u64, wrap_u8, binV_shr, binV_shl, binV_rem, binV_quo, Int.fdiv_eq_ediv_of_nonneg, Int.tdiv_eq_ediv_of_nonneg, Int.tmod_eq_emod_of_nonneg, callG_body, idxAddr_arr, idxAddr_slc, St.alloc_old, St.alloc_at, St.put_other, St.alloc_put_old, St.alloc_put_new]
  have hSf : ∀ b, b < s.next → S.heap b = s.heap b := fun b hb => by rw [hS _ (by simp; omega)]; simp -implicitDefEqProofs (disch := first | omega | (simp -implicitDefEqProofs <;> omega) | fail) [wrap_i64, wrap_u64, wrap_u8, binV_shr, binV_shl, binV_rem, binV_quo, Int.fdiv_eq_ediv_of_nonneg, Int.tdiv_eq_ediv_of_nonneg, Int.tmod_eq_emod_of_nonneg, callG_body, idxAddr_arr, idxAddr_slc, St.alloc_old, St.alloc_at, St.put_other, St.alloc_put_old, St.alloc_put_new]
  have hn' : s.next < S.next := by simp at hn; omega
  simp -implicitDefEqProofs (disch := first | omega | (simp -implicitDefEqProofs <;> omega) | fail) [wrap_i64, wrap_u64, wrap_u8, binV_shr, binV_shl, binV_rem, binV_quo, Int.fdiv_eq_ediv_of_nonneg, Int.tdiv_eq_ediv_of_nonneg, Int.tmod_eq_emod_of_nonneg, callG_body, idxAddr_arr, idxAddr_slc, St.alloc_old, St.alloc_at, St.put_other, St.alloc_put_old, St.alloc_put_new, zeroN, setupC_len, g2, g3, hS0]
  have b1 : ∀ a b c : Option Addr, buildV P 76 #[(0, .pointer a), (1, .agg #[.slice none 0 0, .int .i64 0, .bool false]), (2, .pointer b), (3, .pointer c)] = some (.agg #[.pointer a, .slice none 0 0, .int .i64 0, .bool false, .pointer b, .pointer c]) := fun a b c => by kernel_rfl
  have b2 : ∀ a b c : Option Addr, buildV P 79 #[(0, .int .i64 2), (1, .int .i64 3), (5, .agg #[.pointer a, .slice none 0 0, .int .i64 0, .bool false, .pointer b, .pointer c])] = some (.agg #[.int .i64 2, .int .i64 3, .int .i64 0, .int .u64 0, .slice none 0 0, .pointer a, .slice none 0 0, .int .i64 0, .bool false, .pointer b, .pointer c]) := fun a b c => by kernel_rfl
  simp -implicitDefEqProofs (disch := first | omega | (simp -implicitDefEqProofs <;> omega) | fail) [wrap_i64, wrap_u64, wrap_u8, binV_shr, binV_shl, binV_rem, binV_quo, Int.fdiv_eq_ediv_of_nonneg, Int.tdiv_eq_ediv_of_nonneg, Int.tmod_eq_emod_of_nonneg, callG_body, idxAddr_arr, idxAddr_slc, St.alloc_old, St.alloc_at, St.put_other, St.alloc_put_old, St.alloc_put_new, f7xJ1, setupC_len, g2, g3, hS0]
  refine MomNew_spec hl ?_
  simp -implicitDefEqProofs (disch := first | omega | (simp -implicitDefEqProofs <;> omega) | fail) [wrap_i64, wrap_u64, wrap_u8, binV_shr, binV_shl, binV_rem, binV_quo, Int.fdiv_eq_ediv_of_nonneg, Int.tdiv_eq_ediv_of_nonneg, Int.tmod_eq_emod_of_nonneg, callG_body, idxAddr_arr, idxAddr_slc, St.alloc_old, St.alloc_at, St.put_other, St.alloc_put_old, St.alloc_put_new, setupC_len, g2, g3, hS0]
  refine HoldNew_spec hl ?_
  simp -implicitDefEqProofs (disch := first | omega | (simp -implicitDefEqProofs <;> omega) | fail) [wrap_i64, wrap_u64, wrap_u8, binV_shr, binV_shl, binV_rem, binV_quo, Int.fdiv_eq_ediv_of_nonneg, Int.tdiv_eq_ediv_of_nonneg, Int.tmod_eq_emod_of_nonneg, callG_body, idxAddr_arr, idxAddr_slc, St.alloc_old, St.alloc_at, St.put_other, St.alloc_put_old, St.alloc_put_new, setupC_len, g2, g3, hS0]
  refine BrNew_spec hl fun cs => ?_
  simp -implicitDefEqProofs (disch := first | omega | (simp -implicitDefEqProofs <;> omega) | fail) [wrap_i64, wrap_u64, wrap_u8, binV_shr, binV_shl, binV_rem, binV_quo, Int.fdiv_eq_ediv_of_nonneg, Int.tdiv_eq_ediv_of_nonneg, Int.tmod_eq_emod_of_nonneg, callG_body, idxAddr_arr, idxAddr_slc, St.alloc_old, St.alloc_at, St.put_other, St.alloc_put_old, St.alloc_put_new, setupC_len, g2, g3, b1, b2, boxN, hS0]
  refine kEnd_keep (hq _ _ (fun b hb => ?_) (by simp; omega))
  rw [← hSf b hb]
  simp -implicitDefEqProofs (disch := first | omega | (simp -implicitDefEqProofs <;> omega) | fail) [wrap_i64, wrap_u64, wrap_u8, binV_shr, binV_shl, binV_rem, binV_quo, Int.fdiv_eq_ediv_of_nonneg, Int.tdiv_eq_ediv_of_nonneg, Int.tmod_eq_emod_of_nonneg, callG_body, idxAddr_arr, idxAddr_slc, St.alloc_old, St.alloc_at, St.put_other, St.alloc_put_old, St.alloc_put_new]

theorem eq_verdict : binV P .eql 23 (.agg #[.int .i64 0, .int .i64 0, .int .i64 0, .int .i64 0]) (.agg #[.int .i64 0, .int .i64 0, .int .i64 0, .int .i64 0]) = some (.bool true) := by kernel_rfl
theorem build_verdict : buildV P 23 #[] = some (.agg #[.int .i64 0, .int .i64 0, .int .i64 0, .int .i64 0]) := by kernel_rfl

theorem CheckFine_spec {a b c d : Int} {Q : Post} {s : St} (hq : Q (.bool true) s) : CC laidS 3 [.agg #[.int .i64 a, .int .i64 b, .int .i64 c, .int .i64 d]] Q s := by
  have hl := laidS_bare
  refine calls_body (hl 3 (by decide)) ?_
  rw [f3xeq, f3xS]
  simp -implicitDefEqProofs (disch := first | omega | (simp -implicitDefEqProofs <;> omega) | fail) [wrap_i64, wrap_u64, wrap_u8, binV_shr, binV_shl, binV_rem, binV_quo, Int.fdiv_eq_ediv_of_nonneg, Int.tdiv_eq_ediv_of_nonneg, Int.tmod_eq_emod_of_nonneg, callG_body, idxAddr_arr, idxAddr_slc, St.alloc_old, St.alloc_at, St.put_other, St.alloc_put_old, St.alloc_put_new, boxN]
  refine awake_spec ?_
  simp -implicitDefEqProofs (disch := first | omega | (simp -implicitDefEqProofs <;> omega) | fail) [wrap_i64, wrap_u64, wrap_u8, binV_shr, binV_shl, binV_rem, binV_quo, Int.fdiv_eq_ediv_of_nonneg, Int.tdiv_eq_ediv_of_nonneg, Int.tmod_eq_emod_of_nonneg, callG_body, idxAddr_arr, idxAddr_slc, St.alloc_old, St.alloc_at, St.put_other, St.alloc_put_old, St.alloc_put_new, f3xJ1]
  refine Fine_spec hl ?_
  have hx : ∀ x y : Bool, binV P .eql 4 (.bool x) (.bool y) = some (.bool (x == y)) := fun x y => by simp [binV, eqOp]
  by_cases hc : c = 0
  · by_cases hd : d = 0
    · simp -implicitDefEqProofs (disch := first | omega | (simp -implicitDefEqProofs <;> omega) | fail) [wrap_i64, wrap_u64, wrap_u8, binV_shr, binV_shl, binV_rem, binV_quo, Int.fdiv_eq_ediv_of_nonneg, Int.tdiv_eq_ediv_of_nonneg, Int.tmod_eq_emod_of_nonneg, callG_body, idxAddr_arr, idxAddr_slc, St.alloc_old, St.alloc_at, St.put_other, St.alloc_put_old, St.alloc_put_new, hc, hd, hx, build_verdict, mkIf]
      refine Setup_spec hl ?_
      simp -implicitDefEqProofs (disch := first | omega | (simp -implicitDefEqProofs <;> omega) | fail) [wrap_i64, wrap_u64, wrap_u8, binV_shr, binV_shl, binV_rem, binV_quo, Int.fdiv_eq_ediv_of_nonneg, Int.tdiv_eq_ediv_of_nonneg, Int.tmod_eq_emod_of_nonneg, callG_body, idxAddr_arr, idxAddr_slc, St.alloc_old, St.alloc_at, St.put_other, St.alloc_put_old, St.alloc_put_new]
      refine TruthNew_spec hl fun p S hS hn => ?_
      simp -implicitDefEqProofs (disch := first | omega | (simp -implicitDefEqProofs <;> omega) | fail) [wrap_i64, wrap_u64, wrap_u8, binV_shr, binV_shl, binV_rem, binV_quo, Int.fdiv_eq_ediv_of_nonneg, Int.tdiv_eq_ediv_of_nonneg, Int.tmod_eq_emod_of_nonneg, callG_body, idxAddr_arr, idxAddr_slc, St.alloc_old, St.alloc_at, St.put_other, St.alloc_put_old, St.alloc_put_new]
      refine All_spec hl ?_
      simp -implicitDefEqProofs (disch := first | omega | (simp -implicitDefEqProofs <;> omega) | fail) [wrap_i64, wrap_u64, wrap_u8, binV_shr, binV_shl, binV_rem, binV_quo, Int.fdiv_eq_ediv_of_nonneg, Int.tdiv_eq_ediv_of_nonneg, Int.tmod_eq_emod_of_nonneg, callG_body, idxAddr_arr, idxAddr_slc, St.alloc_old, St.alloc_at, St.put_other, St.alloc_put_old, St.alloc_put_new, eq_verdict, build_verdict]
      refine All_spec hl ?_
      simp -implicitDefEqProofs (disch := first | omega | (simp -implicitDefEqProofs <;> omega) | fail) [wrap_i64, wrap_u64, wrap_u8, binV_shr, binV_shl, binV_rem, binV_quo, Int.fdiv_eq_ediv_of_nonneg, Int.tdiv_eq_ediv_of_nonneg, Int.tmod_eq_emod_of_nonneg, callG_body, idxAddr_arr, idxAddr_slc, St.alloc_old, St.alloc_at, St.put_other, St.alloc_put_old, St.alloc_put_new, eq_verdict]
      refine kEnd_old (fun b hb => ?_) (by simp) hq
      rw [hS b (by simp; omega)]
      simp -implicitDefEqProofs (disch := first | omega | (simp -implicitDefEqProofs <;> omega) | fail) [wrap_i64, wrap_u64, wrap_u8, binV_shr, binV_shl, binV_rem, binV_quo, Int.fdiv_eq_ediv_of_nonneg, Int.tdiv_eq_ediv_of_nonneg, Int.tmod_eq_emod_of_nonneg, callG_body, idxAddr_arr, idxAddr_slc, St.alloc_old, St.alloc_at, St.put_other, St.alloc_put_old, St.alloc_put_new]
    · simp -implicitDefEqProofs (disch := first | omega | (simp -implicitDefEqProofs <;> omega) | fail) [wrap_i64, wrap_u64, wrap_u8, binV_shr, binV_shl, binV_rem, binV_quo, Int.fdiv_eq_ediv_of_nonneg, Int.tdiv_eq_ediv_of_nonneg, Int.tmod_eq_emod_of_nonneg, callG_body, idxAddr_arr, idxAddr_slc, St.alloc_old, St.alloc_at, St.put_other, St.alloc_put_old, St.alloc_put_new, hc, hd, hx, build_verdict, mkIf]
      refine Setup_spec hl ?_
      simp -implicitDefEqProofs (disch := first | omega | (simp -implicitDefEqProofs <;> omega) | fail) [wrap_i64, wrap_u64, wrap_u8, binV_shr, binV_shl, binV_rem, binV_quo, Int.fdiv_eq_ediv_of_nonneg, Int.tdiv_eq_ediv_of_nonneg, Int.tmod_eq_emod_of_nonneg, callG_body, idxAddr_arr, idxAddr_slc, St.alloc_old, St.alloc_at, St.put_other, St.alloc_put_old, St.alloc_put_new]
      refine TruthNew_spec hl fun p S hS hn => ?_
      simp -implicitDefEqProofs (disch := first | omega | (simp -implicitDefEqProofs <;> omega) | fail) [wrap_i64, wrap_u64, wrap_u8, binV_shr, binV_shl, binV_rem, binV_quo, Int.fdiv_eq_ediv_of_nonneg, Int.tdiv_eq_ediv_of_nonneg, Int.tmod_eq_emod_of_nonneg, callG_body, idxAddr_arr, idxAddr_slc, St.alloc_old, St.alloc_at, St.put_other, St.alloc_put_old, St.alloc_put_new]
      refine All_spec hl ?_
      simp -implicitDefEqProofs (disch := first | omega | (simp -implicitDefEqProofs <;> omega) | fail) [wrap_i64, wrap_u64, wrap_u8, binV_shr, binV_shl, binV_rem, binV_quo, Int.fdiv_eq_ediv_of_nonneg, Int.tdiv_eq_ediv_of_nonneg, Int.tmod_eq_emod_of_nonneg, callG_body, idxAddr_arr, idxAddr_slc, St.alloc_old, St.alloc_at, St.put_other, St.alloc_put_old, St.alloc_put_new, eq_verdict, build_verdict]
      refine All_spec hl ?_
      simp -implicitDefEqProofs (disch := first | omega | (simp -implicitDefEqProofs <;> omega) | fail) [wrap_i64, wrap_u64, wrap_u8, binV_shr, binV_shl, binV_rem, binV_quo, Int.fdiv_eq_ediv_of_nonneg, Int.tdiv_eq_ediv_of_nonneg, Int.tmod_eq_emod_of_nonneg, callG_body, idxAddr_arr, idxAddr_slc, St.alloc_old, St.alloc_at, St.put_other, St.alloc_put_old, St.alloc_put_new, eq_verdict]
      refine kEnd_old (fun b hb => ?_) (by simp) hq
      rw [hS b (by simp; omega)]
      simp -implicitDefEqProofs (disch := first | omega | (simp -implicitDefEqProofs <;> omega) | fail) [wrap_i64, wrap_u64, wrap_u8, binV_shr, binV_shl, binV_rem, binV_quo, Int.fdiv_eq_ediv_of_nonneg, Int.tdiv_eq_ediv_of_nonneg, Int.tmod_eq_emod_of_nonneg, callG_body, idxAddr_arr, idxAddr_slc, St.alloc_old, St.alloc_at, St.put_other, St.alloc_put_old, St.alloc_put_new]
  · simp -implicitDefEqProofs (disch := first | omega | (simp -implicitDefEqProofs <;> omega) | fail) [wrap_i64, wrap_u64, wrap_u8, binV_shr, binV_shl, binV_rem, binV_quo, Int.fdiv_eq_ediv_of_nonneg, Int.tdiv_eq_ediv_of_nonneg, Int.tmod_eq_emod_of_nonneg, callG_body, idxAddr_arr, idxAddr_slc, St.alloc_old, St.alloc_at, St.put_other, St.alloc_put_old, St.alloc_put_new, hc, hx, build_verdict, mkIf]
    refine Setup_spec hl ?_
    simp -implicitDefEqProofs (disch := first | omega | (simp -implicitDefEqProofs <;> omega) | fail) [wrap_i64, wrap_u64, wrap_u8, binV_shr, binV_shl, binV_rem, binV_quo, Int.fdiv_eq_ediv_of_nonneg, Int.tdiv_eq_ediv_of_nonneg, Int.tmod_eq_emod_of_nonneg, callG_body, idxAddr_arr, idxAddr_slc, St.alloc_old, St.alloc_at, St.put_other, St.alloc_put_old, St.alloc_put_new]
    refine TruthNew_spec hl fun p S hS hn => ?_
    simp -implicitDefEqProofs (disch := first | omega | (simp -implicitDefEqProofs <;> omega) | fail) [wrap_i64, wrap_u64, wrap_u8, binV_shr, binV_shl, binV_rem, binV_quo, Int.fdiv_eq_ediv_of_nonneg, Int.tdiv_eq_ediv_of_nonneg, Int.tmod_eq_emod_of_nonneg, callG_body, idxAddr_arr, idxAddr_slc, St.alloc_old, St.alloc_at, St.put_other, St.alloc_put_old, St.alloc_put_new]
    refine All_spec hl ?_
    simp -implicitDefEqProofs (disch := first | omega | (simp -implicitDefEqProofs <;> omega) | fail) [wrap_i64, wrap_u64, wrap_u8, binV_shr, binV_shl, binV_rem, binV_quo, Int.fdiv_eq_ediv_of_nonneg, Int.tdiv_eq_ediv_of_nonneg, Int.tmod_eq_emod_of_nonneg, callG_body, idxAddr_arr, idxAddr_slc, St.alloc_old, St.alloc_at, St.put_other, St.alloc_put_old, St.alloc_put_new, eq_verdict, build_verdict]
    refine All_spec hl ?_
    simp -implicitDefEqProofs (disch := first | omega | (simp -implicitDefEqProofs <;> omega) | fail) [wrap_i64, wrap_u64, wrap_u8, binV_shr, binV_shl, binV_rem, binV_quo, Int.fdiv_eq_ediv_of_nonneg, Int.tdiv_eq_ediv_of_nonneg, Int.tmod_eq_emod_of_nonneg, callG_body, idxAddr_arr, idxAddr_slc, St.alloc_old, St.alloc_at, St.put_other, St.alloc_put_old, St.alloc_put_new, eq_verdict]
    refine kEnd_old (fun b hb => ?_) (by simp) hq
    rw [hS b (by simp; omega)]
    simp -implicitDefEqProofs (disch := first | omega | (simp -implicitDefEqProofs <;> omega) | fail) [wrap_i64, wrap_u64, wrap_u8, binV_shr, binV_shl, binV_rem, binV_quo, Int.fdiv_eq_ediv_of_nonneg, Int.tdiv_eq_ediv_of_nonneg, Int.tmod_eq_emod_of_nonneg, callG_body, idxAddr_arr, idxAddr_slc, St.alloc_old, St.alloc_at, St.put_other, St.alloc_put_old, St.alloc_put_new]

end Go.Zz
