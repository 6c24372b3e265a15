/- A new tree; the document's example; the law CheckLeaks, walked. -/
import Derived.Test.YtcjoihkdaoflfaaGreatWk
set_option linter.all false
set_option maxRecDepth 20000
namespace Go.Zz
open Go

def litC : List Value := u8s (zs 32) ++ (.int .u64 0 :: u8s (zs 32))
theorem build_lit : buildV P 40 #[] = some (.agg litC.toArray) := by kernel_rfl
def key1 : Bytes 32 := ⟨1 :: zs 31, by simp⟩
theorem build_key1 : buildV P 30 #[(0, .int .u8 1)] = some (.agg (u8s key1.1).toArray) := by kernel_rfl
theorem build_tree' (parts : Array (Nat × Value)) : buildV P 86 parts = (fillV (fun i => [(0, 1), (1, 1)][i]?) [.nilIface, .slice none 0 0] parts).map fun l => .agg l.toArray := by kernel_rfl
theorem build_tree {t : TypeId} {x : Value} {a : Option Addr} {l c : Nat} : buildV P 86 #[(0, .iface t x), (1, .slice a l c)] = some (.agg #[.iface t x, .slice a l c]) := by
  rw [build_tree']; simp [fillV, data, Instr.fill, Value.cells]
theorem build_seed {ks : Bytes 32} : buildV P 83 #[(2, .agg (u8s ks.1).toArray)] = some (.agg (.int .i64 0 :: .int .u64 0 :: u8s ks.1).toArray) := by
  rw [build46]
  simp [fillV, data, Instr.fill, Value.cells]
  have := fold_lwr (vs := .int .i64 0 :: .int .u64 0 :: u8s (zs 32)) (cs := u8s ks.1) (off := 2) (by simp)
  simp at this
  rw [this]

theorem New_spec {laid : Laid} (hl : Bare laid) {cv : List Value} {ks : Bytes 32} {Q : Post} {s : St}
    (hq : ∀ s' ρ, TreeR s' (s.next + 2) ρ [⟨0, 0, ks⟩] → (∀ b, ρ = some b → s.next ≤ b) → s.next + 3 ≤ s'.next → (∀ b, b < s.next → s'.heap b = s.heap b) → Q (.pointer (some ⟨s.next + 2, 0, none⟩)) s') : CC laid 9 [.iface 40 (.agg cv.toArray), .agg (u8s ks.1).toArray] Q s := by
  refine calls_body (hl 9 (by decide)) ?_
  rw [f9xeq, f9xS]
  have he : binV P .eql 81 (.iface 40 (.agg cv.toArray)) .nilIface = some (.bool false) := by simp [binV, eqOp]
  have hb := bsl_hd (cs := .int .i64 0 :: .int .u64 0 :: u8s ks.1) (by simp)
  simp -implicitDefEqProofs (disch := first | omega | (simp -implicitDefEqProofs <;> omega) | fail) [wrap_i64, wrap_u64, wrap_u8, binV_shr, binV_shl, binV_rem, binV_quo, Int.fdiv_eq_ediv_of_nonneg, Int.tdiv_eq_ediv_of_nonneg, Int.tmod_eq_emod_of_nonneg, callG_body, idxAddr_arr, idxAddr_slc, St.alloc_old, St.alloc_at, St.put_other, St.alloc_put_old, St.alloc_put_new, he, f9xJ1, build_seed, hb, build_tree]
  generalize hS : ((s.alloc (.cells (u8s ks.1) false)).alloc (.cells (.int .i64 0 :: .int .u64 0 :: u8s ks.1) false)).alloc (.cells [.iface 40 (.agg cv.toArray), .slice (some ⟨s.next + 1, 0, none⟩) 1 1] false) = S
  have hn : S.next = s.next + 3 := by subst hS; simp
  have h1 : S.heap (s.next + 1) = some (.cells (heldE.row [⟨0, 0, ks⟩] ++ []) false) := by subst hS; simp -implicitDefEqProofs (disch := first | omega | (simp -implicitDefEqProofs <;> omega) | fail) [wrap_i64, wrap_u64, wrap_u8, binV_shr, binV_shl, binV_rem, binV_quo, Int.fdiv_eq_ediv_of_nonneg, Int.tdiv_eq_ediv_of_nonneg, Int.tmod_eq_emod_of_nonneg, callG_body, idxAddr_arr, idxAddr_slc, St.alloc_old, St.alloc_at, St.put_other, St.alloc_put_old, St.alloc_put_new, Enc.row]
  have h2 : S.heap (s.next + 2) = some (.cells [.iface 40 (.agg cv.toArray), .slice (some ⟨s.next + 1, 0, none⟩) 1 1] false) := by subst hS; simp -implicitDefEqProofs (disch := first | omega | (simp -implicitDefEqProofs <;> omega) | fail) [wrap_i64, wrap_u64, wrap_u8, binV_shr, binV_shl, binV_rem, binV_quo, Int.fdiv_eq_ediv_of_nonneg, Int.tdiv_eq_ediv_of_nonneg, Int.tmod_eq_emod_of_nonneg, callG_body, idxAddr_arr, idxAddr_slc, St.alloc_old, St.alloc_at, St.put_other, St.alloc_put_old, St.alloc_put_new]
  have hf : ∀ b, b < s.next → S.heap b = s.heap b := fun b hb => by subst hS; simp -implicitDefEqProofs (disch := first | omega | (simp -implicitDefEqProofs <;> omega) | fail) [wrap_i64, wrap_u64, wrap_u8, binV_shr, binV_shl, binV_rem, binV_quo, Int.fdiv_eq_ediv_of_nonneg, Int.tdiv_eq_ediv_of_nonneg, Int.tmod_eq_emod_of_nonneg, callG_body, idxAddr_arr, idxAddr_slc, St.alloc_old, St.alloc_at, St.put_other, St.alloc_put_old, St.alloc_put_new]
  clear hS
  have htop : top = 18446744073709551616 := rfl
  have ho : heldE.Own S (.slice (some ⟨s.next + 1, 0, none⟩) 1 1) (some (s.next + 1)) [⟨0, 0, ks⟩] := .row (xs := [(⟨0, 0, ks⟩ : Hd)]) (by omega) h1 (.inr ⟨by omega, by simp, by simp⟩)
  refine kEnd_keep (hq S (some (s.next + 1)) ⟨⟨cv, _, _, h2, ho⟩, by simp, by omega, ⟨fun x hx => ?_, by simp⟩⟩ (fun b hb => by cases hb; omega) (by omega) hf)
  rw [List.mem_singleton.1 hx]
  exact ⟨by simp, by simp⟩

theorem cov_new {ks : Bytes 32} {m : Nat} : Cov [⟨0, 0, ks⟩] m ↔ m < 131072 := by
  simp [Cov, Hd.Cov]

theorem Fine_spec {laid : Laid} (hl : Bare laid) {a b c d : Int} {Q : Post} {s : St} (hq : Q (.bool (decide (c = 0) && decide (d = 0))) s) : CC laid 5 [.agg #[.int .i64 a, .int .i64 b, .int .i64 c, .int .i64 d]] Q s := by
  refine calls_body (hl 5 (by decide)) ?_
  rw [f5xeq, f5xS]
  by_cases hc : c = 0
  · simp -implicitDefEqProofs (disch := first | omega | (simp -implicitDefEqProofs <;> omega) | fail) [wrap_i64, wrap_u64, wrap_u8, binV_shr, binV_shl, binV_rem, binV_quo, Int.fdiv_eq_ediv_of_nonneg, Int.tdiv_eq_ediv_of_nonneg, Int.tmod_eq_emod_of_nonneg, callG_body, idxAddr_arr, idxAddr_slc, St.alloc_old, St.alloc_at, St.put_other, St.alloc_put_old, St.alloc_put_new, boxN, hc]
    exact kEnd_old (fun b hb => by simp -implicitDefEqProofs (disch := first | omega | (simp -implicitDefEqProofs <;> omega) | fail) [wrap_i64, wrap_u64, wrap_u8, binV_shr, binV_shl, binV_rem, binV_quo, Int.fdiv_eq_ediv_of_nonneg, Int.tdiv_eq_ediv_of_nonneg, Int.tmod_eq_emod_of_nonneg, callG_body, idxAddr_arr, idxAddr_slc, St.alloc_old, St.alloc_at, St.put_other, St.alloc_put_old, St.alloc_put_new]) (by simp) (by simpa [hc] using hq)
  · simp -implicitDefEqProofs (disch := first | omega | (simp -implicitDefEqProofs <;> omega) | fail) [wrap_i64, wrap_u64, wrap_u8, binV_shr, binV_shl, binV_rem, binV_quo, Int.fdiv_eq_ediv_of_nonneg, Int.tdiv_eq_ediv_of_nonneg, Int.tmod_eq_emod_of_nonneg, callG_body, idxAddr_arr, idxAddr_slc, St.alloc_old, St.alloc_at, St.put_other, St.alloc_put_old, St.alloc_put_new, boxN, hc]
    exact kEnd_old (fun b hb => by simp -implicitDefEqProofs (disch := first | omega | (simp -implicitDefEqProofs <;> omega) | fail) [wrap_i64, wrap_u64, wrap_u8, binV_shr, binV_shl, binV_rem, binV_quo, Int.fdiv_eq_ediv_of_nonneg, Int.tdiv_eq_ediv_of_nonneg, Int.tmod_eq_emod_of_nonneg, callG_body, idxAddr_arr, idxAddr_slc, St.alloc_old, St.alloc_at, St.put_other, St.alloc_put_old, St.alloc_put_new]) (by simp) (by simpa [hc] using hq)

theorem fine0 : buildV P 23 #[(0, .int .i64 3)] = some (.agg #[.int .i64 3, .int .i64 0, .int .i64 0, .int .i64 0]) := by kernel_rfl
theorem fine1 : buildV P 23 #[(3, .int .i64 1)] = some (.agg #[.int .i64 0, .int .i64 0, .int .i64 0, .int .i64 1]) := by kernel_rfl

theorem bsl_nums {n m : Int} : bslN (some (37, 1, 8, [.int .u64 0])) 2 #[(0, .int .u64 n), (1, .int .u64 m)] = some (.cells [.int .u64 n, .int .u64 m] false, .slc 2 2) := by
  simp [bslN, fillV, data, Instr.fill, Value.cells, zeros, List.range, List.range.loop]

theorem leakL_two {c : Nat → Bool} (h1 : c 1 = true) (h2 : c 2 = true) : leakL c 2 = [1, 2] := by
  simp [leakL, List.range, List.range.loop, h1, h2]

set_option maxRecDepth 20000 in
theorem awake_spec {Q : Post} {s : St} (hq : Q (.bool true) s) : CC laidS 4 [] Q s := by
  have hl := laidS_bare
  refine calls_body (hl 4 (by decide)) ?_
  rw [f4xeq, f4xS]
  simp -implicitDefEqProofs (disch := first | omega | (simp -implicitDefEqProofs <;> omega) | fail) [wrap_i64, wrap_u64, wrap_u8, binV_shr, binV_shl, binV_rem, binV_quo, Int.fdiv_eq_ediv_of_nonneg, Int.tdiv_eq_ediv_of_nonneg, Int.tmod_eq_emod_of_nonneg, callG_body, idxAddr_arr, idxAddr_slc, St.alloc_old, St.alloc_at, St.put_other, St.alloc_put_old, St.alloc_put_new, build_lit, mkIf, build_key1]
  refine New_spec hl fun s1 ρ1 t1 h1 h2 h3 => ?_
  simp -implicitDefEqProofs (disch := first | omega | (simp -implicitDefEqProofs <;> omega) | fail) [wrap_i64, wrap_u64, wrap_u8, binV_shr, binV_shl, binV_rem, binV_quo, Int.fdiv_eq_ediv_of_nonneg, Int.tdiv_eq_ediv_of_nonneg, Int.tmod_eq_emod_of_nonneg, callG_body, idxAddr_arr, idxAddr_slc, St.alloc_old, St.alloc_at, St.put_other, St.alloc_put_old, St.alloc_put_new]
  refine Puncture_spec (n := 2) (by omega) t1 fun u s2 ρ2 hs2 t2 c2 n2 g2 f2 => ?_
  have hρ2 : ∀ b, ρ2 = some b → s.next ≤ b := fun b hb => by
    rcases g2 with h | ⟨y, h, hy⟩
    · exact h1 b (h ▸ hb)
    · rw [hb] at h; cases h; omega
  have f20 : ∀ b, b < s.next → s2.heap b = s.heap b := fun b hb => by
    rw [f2 b (by omega) (by omega) (fun e => by have := h1 b e.symm; omega), h3 b hb]
  simp -implicitDefEqProofs (disch := first | omega | (simp -implicitDefEqProofs <;> omega) | fail) [wrap_i64, wrap_u64, wrap_u8, binV_shr, binV_shl, binV_rem, binV_quo, Int.fdiv_eq_ediv_of_nonneg, Int.tdiv_eq_ediv_of_nonneg, Int.tmod_eq_emod_of_nonneg, callG_body, idxAddr_arr, idxAddr_slc, St.alloc_old, St.alloc_at, St.put_other, St.alloc_put_old, St.alloc_put_new, bsl_nums]
  generalize hS : s2.alloc (.cells [.int .u64 1, .int .u64 2] false) = S
  have hSn : S.next = s2.next + 1 := by subst hS; simp
  have hSf : ∀ b, b < s2.next → S.heap b = s2.heap b := fun b hb => by subst hS; simp -implicitDefEqProofs (disch := first | omega | (simp -implicitDefEqProofs <;> omega) | fail) [wrap_i64, wrap_u64, wrap_u8, binV_shr, binV_shl, binV_rem, binV_quo, Int.fdiv_eq_ediv_of_nonneg, Int.tdiv_eq_ediv_of_nonneg, Int.tmod_eq_emod_of_nonneg, callG_body, idxAddr_arr, idxAddr_slc, St.alloc_old, St.alloc_at, St.put_other, St.alloc_put_old, St.alloc_put_new]
  have hSk : S.heap s2.next = some (.cells [.int .u64 (1 : Nat), .int .u64 (2 : Nat)] false) := by subst hS; simp -implicitDefEqProofs (disch := first | omega | (simp -implicitDefEqProofs <;> omega) | fail) [wrap_i64, wrap_u64, wrap_u8, binV_shr, binV_shl, binV_rem, binV_quo, Int.fdiv_eq_ediv_of_nonneg, Int.tdiv_eq_ediv_of_nonneg, Int.tmod_eq_emod_of_nonneg, callG_body, idxAddr_arr, idxAddr_slc, St.alloc_old, St.alloc_at, St.put_other, St.alloc_put_old, St.alloc_put_new]
  clear hS
  have hks : u64E.Sl S (.slice (some ⟨s2.next, 0, none⟩) 2 2) [1, 2] := .row (xs := [1, 2]) ⟨[], [], false, by simpa [Enc.row] using hSk, rfl⟩
  refine Leaks_spec hl (top := 2) (t2.same (by omega) hSf) hks .nil (by simp) (by simp) (by omega) (fun b o l c e => by cases e; omega) (fun b o l c e => by cases e) fun v s3 ρ3 o3 n3 f3 => ?_
  have hcov : ∀ m, Cov hs2 m ↔ m < 131072 ∧ m ≠ 2 := fun m => by rw [c2 m, cov_new]
  rw [leakL_two (by simp [hcov]) (by simp [hcov])] at o3
  simp -implicitDefEqProofs (disch := first | omega | (simp -implicitDefEqProofs <;> omega) | fail) [wrap_i64, wrap_u64, wrap_u8, binV_shr, binV_shl, binV_rem, binV_quo, Int.fdiv_eq_ediv_of_nonneg, Int.tdiv_eq_ediv_of_nonneg, Int.tmod_eq_emod_of_nonneg, callG_body, idxAddr_arr, idxAddr_slc, St.alloc_old, St.alloc_at, St.put_other, St.alloc_put_old, St.alloc_put_new, bsl_nums]
  generalize hT : s3.alloc (.cells [.int .u64 1, .int .u64 2] false) = T
  have hTf : ∀ b, b < s3.next → T.heap b = s3.heap b := fun b hb => by subst hT; simp -implicitDefEqProofs (disch := first | omega | (simp -implicitDefEqProofs <;> omega) | fail) [wrap_i64, wrap_u64, wrap_u8, binV_shr, binV_shl, binV_rem, binV_quo, Int.fdiv_eq_ediv_of_nonneg, Int.tdiv_eq_ediv_of_nonneg, Int.tmod_eq_emod_of_nonneg, callG_body, idxAddr_arr, idxAddr_slc, St.alloc_old, St.alloc_at, St.put_other, St.alloc_put_old, St.alloc_put_new]
  have hTk : T.heap s3.next = some (.cells [.int .u64 (1 : Nat), .int .u64 (2 : Nat)] false) := by subst hT; simp -implicitDefEqProofs (disch := first | omega | (simp -implicitDefEqProofs <;> omega) | fail) [wrap_i64, wrap_u64, wrap_u8, binV_shr, binV_shl, binV_rem, binV_quo, Int.fdiv_eq_ediv_of_nonneg, Int.tdiv_eq_ediv_of_nonneg, Int.tmod_eq_emod_of_nonneg, callG_body, idxAddr_arr, idxAddr_slc, St.alloc_old, St.alloc_at, St.put_other, St.alloc_put_old, St.alloc_put_new]
  have hTn : T.next = s3.next + 1 := by subst hT; simp
  clear hT
  have hus : u64E.Sl T (.slice (some ⟨s3.next, 0, none⟩) 2 2) [1, 2] := .row (xs := [1, 2]) ⟨[], [], false, by simpa [Enc.row] using hTk, rfl⟩
  refine Nums_spec hl (o3.same (by omega) (fun b hb => hTf b (by subst hb; exact o3.lt))).sl hus (by simp) ?_
  simp -implicitDefEqProofs (disch := first | omega | (simp -implicitDefEqProofs <;> omega) | fail) [wrap_i64, wrap_u64, wrap_u8, binV_shr, binV_shl, binV_rem, binV_quo, Int.fdiv_eq_ediv_of_nonneg, Int.tdiv_eq_ediv_of_nonneg, Int.tmod_eq_emod_of_nonneg, callG_body, idxAddr_arr, idxAddr_slc, St.alloc_old, St.alloc_at, St.put_other, St.alloc_put_old, St.alloc_put_new, fine0]
  refine Fine_spec hl ?_
  simp -implicitDefEqProofs (disch := first | omega | (simp -implicitDefEqProofs <;> omega) | fail) [wrap_i64, wrap_u64, wrap_u8, binV_shr, binV_shl, binV_rem, binV_quo, Int.fdiv_eq_ediv_of_nonneg, Int.tdiv_eq_ediv_of_nonneg, Int.tmod_eq_emod_of_nonneg, callG_body, idxAddr_arr, idxAddr_slc, St.alloc_old, St.alloc_at, St.put_other, St.alloc_put_old, St.alloc_put_new, fine1]
  refine Fine_spec hl ?_
  simp -implicitDefEqProofs (disch := first | omega | (simp -implicitDefEqProofs <;> omega) | fail) [wrap_i64, wrap_u64, wrap_u8, binV_shr, binV_shl, binV_rem, binV_quo, Int.fdiv_eq_ediv_of_nonneg, Int.tdiv_eq_ediv_of_nonneg, Int.tmod_eq_emod_of_nonneg, callG_body, idxAddr_arr, idxAddr_slc, St.alloc_old, St.alloc_at, St.put_other, St.alloc_put_old, St.alloc_put_new]
  refine kEnd_old (fun b hb => ?_) (by simp) hq
  rw [hTf b (by omega), f3 b (by omega), hSf b (by omega), f20 b hb]

def Old (s : St) (v : Value) : Prop := ∀ b o l c, v = .slice (some ⟨b, o, none⟩) l c → b < s.next
theorem Old.up {v : Value} {s S : St} (h : Old s v) (hn : s.next ≤ S.next) : Old S v := fun b o l c e => Nat.lt_of_lt_of_le (h b o l c e) hn

end Go.Zz
