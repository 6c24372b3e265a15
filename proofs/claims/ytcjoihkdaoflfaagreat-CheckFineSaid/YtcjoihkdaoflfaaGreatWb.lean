/- The little cipher's split; an entry of the tree, and how it splits. -/
import Derived.Test.YtcjoihkdaoflfaaGreatWa
set_option linter.all false
set_option maxRecDepth 20000
namespace Go.Zz
open Go

variable {laid : Laid}

theorem LitSplit_spec (hl : Bare laid) {ks : Bytes 32} {Q : Post} {s : St} (hq : ∀ xs ys : Bytes 32, Q (.tuple #[.agg (u8s xs.1).toArray, .agg (u8s ys.1).toArray]) s) : CC laid 280 [.agg (u8s ks.1).toArray] Q s := by
  refine calls_body (hl 280 (by decide)) ?_
  rw [f280xeq, f280xS]
  simp -implicitDefEqProofs (disch := first | omega | (simp -implicitDefEqProofs <;> omega) | fail) [wrap_i64, wrap_u64, wrap_u8, binV_shr, binV_shl, binV_rem, binV_quo, Int.fdiv_eq_ediv_of_nonneg, Int.tdiv_eq_ediv_of_nonneg, Int.tmod_eq_emod_of_nonneg, callG_body, idxAddr_arr, idxAddr_slc, St.alloc_old, St.alloc_at, St.put_other, St.alloc_put_old, St.alloc_put_new, callG_body]
  refine LitPad_spec hl fun xs => ?_
  simp -implicitDefEqProofs (disch := first | omega | (simp -implicitDefEqProofs <;> omega) | fail) [wrap_i64, wrap_u64, wrap_u8, binV_shr, binV_shl, binV_rem, binV_quo, Int.fdiv_eq_ediv_of_nonneg, Int.tdiv_eq_ediv_of_nonneg, Int.tmod_eq_emod_of_nonneg, callG_body, idxAddr_arr, idxAddr_slc, St.alloc_old, St.alloc_at, St.put_other, St.alloc_put_old, St.alloc_put_new, callG_body]
  refine LitPad_spec hl fun ys => ?_
  simp -implicitDefEqProofs (disch := first | omega | (simp -implicitDefEqProofs <;> omega) | fail) [wrap_i64, wrap_u64, wrap_u8, binV_shr, binV_shl, binV_rem, binV_quo, Int.fdiv_eq_ediv_of_nonneg, Int.tdiv_eq_ediv_of_nonneg, Int.tmod_eq_emod_of_nonneg, callG_body, idxAddr_arr, idxAddr_slc, St.alloc_old, St.alloc_at, St.put_other, St.alloc_put_old, St.alloc_put_new]
  exact kEnd_old (fun b hb => by simp -implicitDefEqProofs (disch := first | omega | (simp -implicitDefEqProofs <;> omega) | fail) [wrap_i64, wrap_u64, wrap_u8, binV_shr, binV_shl, binV_rem, binV_quo, Int.fdiv_eq_ediv_of_nonneg, Int.tdiv_eq_ediv_of_nonneg, Int.tmod_eq_emod_of_nonneg, callG_body, idxAddr_arr, idxAddr_slc, St.alloc_old, St.alloc_at, St.put_other, St.alloc_put_old, St.alloc_put_new]) (bel_tuple (by simp)) (hq xs ys)

theorem Split_spec (hl : Bare laid) {cv : List Value} {ks : Bytes 32} {Q : Post} {s : St} (hq : ∀ xs ys : Bytes 32, Q (.tuple #[.agg (u8s xs.1).toArray, .agg (u8s ys.1).toArray]) s) : CC laid 277 [.agg cv.toArray, .agg (u8s ks.1).toArray] Q s := by
  refine calls_body (hl 277 (by decide)) ?_
  rw [f277xeq, f277xS]
  simp -implicitDefEqProofs (disch := first | omega | (simp -implicitDefEqProofs <;> omega) | fail) [wrap_i64, wrap_u64, wrap_u8, binV_shr, binV_shl, binV_rem, binV_quo, Int.fdiv_eq_ediv_of_nonneg, Int.tdiv_eq_ediv_of_nonneg, Int.tmod_eq_emod_of_nonneg, callG_body, idxAddr_arr, idxAddr_slc, St.alloc_old, St.alloc_at, St.put_other, St.alloc_put_old, St.alloc_put_new, callG_body]
  refine LitSplit_spec hl fun xs ys => ?_
  simp -implicitDefEqProofs (disch := first | omega | (simp -implicitDefEqProofs <;> omega) | fail) [wrap_i64, wrap_u64, wrap_u8, binV_shr, binV_shl, binV_rem, binV_quo, Int.fdiv_eq_ediv_of_nonneg, Int.tdiv_eq_ediv_of_nonneg, Int.tmod_eq_emod_of_nonneg, callG_body, idxAddr_arr, idxAddr_slc, St.alloc_old, St.alloc_at, St.put_other, St.alloc_put_old, St.alloc_put_new]
  exact kEnd_old (fun b hb => by simp -implicitDefEqProofs (disch := first | omega | (simp -implicitDefEqProofs <;> omega) | fail) [wrap_i64, wrap_u64, wrap_u8, binV_shr, binV_shl, binV_rem, binV_quo, Int.fdiv_eq_ediv_of_nonneg, Int.tdiv_eq_ediv_of_nonneg, Int.tmod_eq_emod_of_nonneg, callG_body, idxAddr_arr, idxAddr_slc, St.alloc_old, St.alloc_at, St.put_other, St.alloc_put_old, St.alloc_put_new]) (bel_tuple (by simp)) (hq xs ys)

/-- An entry's cells: how deep, its first number, its key's bytes. -/
def hcell (d f : Int) (key : Bytes 32) : List Value := .int .i64 d :: .int .u64 f :: u8s key.1

theorem findcmp_spec (hl : Bare laid) {d f : Int} {key : Bytes 32} {n : Int} {Q : Post} {s : St} (hq : Q (.int .i64 (cmp3 f n)) s) : CC laid 71 [.agg (.int .i64 d :: .int .u64 f :: u8s key.1).toArray, .int .u64 n] Q s := by
  refine calls_body (hl 71 (by decide)) ?_
  rw [f71xeq, f71xS]
  simp -implicitDefEqProofs (disch := first | omega | (simp -implicitDefEqProofs <;> omega) | fail) [wrap_i64, wrap_u64, wrap_u8, binV_shr, binV_shl, binV_rem, binV_quo, Int.fdiv_eq_ediv_of_nonneg, Int.tdiv_eq_ediv_of_nonneg, Int.tmod_eq_emod_of_nonneg, callG_body, idxAddr_arr, idxAddr_slc, St.alloc_old, St.alloc_at, St.put_other, St.alloc_put_old, St.alloc_put_new, callG_body]
  refine Compare_spec hl ?_
  exact kEnd_old (fun b hb => by simp -implicitDefEqProofs (disch := first | omega | (simp -implicitDefEqProofs <;> omega) | fail) [wrap_i64, wrap_u64, wrap_u8, binV_shr, binV_shl, binV_rem, binV_quo, Int.fdiv_eq_ediv_of_nonneg, Int.tdiv_eq_ediv_of_nonneg, Int.tmod_eq_emod_of_nonneg, callG_body, idxAddr_arr, idxAddr_slc, St.alloc_old, St.alloc_at, St.put_other, St.alloc_put_old, St.alloc_put_new]) (by simp) hq

theorem punc2xspec (hl : Bare laid) {d f d' f' : Int} {key key' : Bytes 32} {Q : Post} {s : St} (hq : Q (.int .i64 (cmp3 f f')) s) :
    CC laid 35 [.agg (.int .i64 d :: .int .u64 f :: u8s key.1).toArray, .agg (.int .i64 d' :: .int .u64 f' :: u8s key'.1).toArray] Q s := by
  refine calls_body (hl 35 (by decide)) ?_
  rw [f35xeq, f35xS]
  simp -implicitDefEqProofs (disch := first | omega | (simp -implicitDefEqProofs <;> omega) | fail) [wrap_i64, wrap_u64, wrap_u8, binV_shr, binV_shl, binV_rem, binV_quo, Int.fdiv_eq_ediv_of_nonneg, Int.tdiv_eq_ediv_of_nonneg, Int.tmod_eq_emod_of_nonneg, callG_body, idxAddr_arr, idxAddr_slc, St.alloc_old, St.alloc_at, St.put_other, St.alloc_put_old, St.alloc_put_new, callG_body]
  refine Compare_spec hl ?_
  exact kEnd_old (fun b hb => by simp -implicitDefEqProofs (disch := first | omega | (simp -implicitDefEqProofs <;> omega) | fail) [wrap_i64, wrap_u64, wrap_u8, binV_shr, binV_shl, binV_rem, binV_quo, Int.fdiv_eq_ediv_of_nonneg, Int.tdiv_eq_ediv_of_nonneg, Int.tmod_eq_emod_of_nonneg, callG_body, idxAddr_arr, idxAddr_slc, St.alloc_old, St.alloc_at, St.put_other, St.alloc_put_old, St.alloc_put_new]) (by simp) hq

theorem fold_set (off : Nat) : ∀ (vs mid pre post : List Value) (k : Nat), pre.length = off + k → mid.length = vs.length →
    (vs.zipIdx k).foldl (fun (cs : Array Value) (x : Value × Nat) => cs.setIfInBounds (off + x.snd) x.fst) (pre ++ mid ++ post).toArray = (pre ++ vs ++ post).toArray := by
  intro vs
  induction vs with
  | nil => intro mid pre post k _ hm; have : mid = [] := by simpa using hm
           subst this; rfl
  | cons v vs ih =>
    intro mid pre post k hp hm
    cases mid with
    | nil => simp at hm
    | cons m mid =>
      have hm' : mid.length = vs.length := by simpa using hm
      have := ih mid (pre ++ [v]) post (k + 1) (by simp; omega) hm'
      rw [List.zipIdx_cons, List.foldl_cons]
      have e : (pre ++ m :: mid ++ post).toArray.setIfInBounds (off + k) v = (pre ++ [v] ++ mid ++ post).toArray := by
        rw [← hp]
        simp
      simp only [e]
      rw [this]
      simp

/-- A value's cells are filled in at a place. -/
theorem fold_lwr {vs cs : List Value} {off : Nat} (h : off + cs.length ≤ vs.length) :
    (cs.zipIdx 0).foldl (fun (cs : Array Value) (x : Value × Nat) => cs.setIfInBounds (off + x.snd) x.fst) vs.toArray = (lwr vs off cs).toArray := by
  have := fold_set off cs ((vs.drop off).take cs.length) (vs.take off) (vs.drop (off + cs.length)) 0 (by simp; omega) (by simp; omega)
  rw [lwr, ← this]
  congr 2
  rw [List.append_assoc, ← List.drop_drop, List.take_append_drop, List.take_append_drop]

theorem build46 (parts : Array (Nat × Value)) : buildV P 83 parts = (fillV (fun i => [(0, 1), (1, 1), (2, 32)][i]?) (.int .i64 0 :: .int .u64 0 :: rep 32 (.int .u8 0)) parts).map fun l => .agg l.toArray := by kernel_rfl
@[simp] theorem build_hd {d f : Int} {ks : Bytes 32} : buildV P 83 #[(0, .int .i64 d), (1, .int .u64 f), (2, .agg (u8s ks.1).toArray)] = some (.agg (.int .i64 d :: .int .u64 f :: u8s ks.1).toArray) := by
  rw [build46]
  simp [fillV, data, Instr.fill, Value.cells]
  have := fold_lwr (vs := .int .i64 d :: .int .u64 f :: u8s (zs 32)) (cs := u8s ks.1) (off := 2) (by simp)
  simp at this
  rw [this]

@[simp] theorem y_method_31 : tMethod P 40 "Split" = some 277 := by kernel_rfl

theorem downsplit_spec (hl : Bare laid) {d f : Int} {key : Bytes 32} (hd : 0 ≤ d) (hd' : d < 17) (hf : 0 ≤ f) (hf' : f < 131072) {r tb : Nat} {tl tl' : Bool} {cv : List Value} {hv : Value} {Q : Post} {s : St} (hb : r < s.next) (hb' : tb < s.next)
    (h1 : s.heap r = some (.cells [.pointer (some ⟨tb, 0, none⟩)] tl)) (h2 : s.heap tb = some (.cells [.iface 40 (.agg cv.toArray), hv] tl'))
    (hq : ∀ xs ys : Bytes 32, Q (.tuple #[.agg (.int .i64 (d + 1) :: .int .u64 f :: u8s xs.1).toArray, .agg (.int .i64 (d + 1) :: .int .u64 (f + (2 ^ (16 - d.toNat) : Nat)) :: u8s ys.1).toArray]) s) :
    CC laid 72 [.agg (.int .i64 d :: .int .u64 f :: u8s key.1).toArray, .pointer (some ⟨r, 0, none⟩)] Q s := by
  refine calls_body (hl 72 (by decide)) ?_
  rw [f72xeq, f72xS]
  simp -implicitDefEqProofs (disch := first | omega | (simp -implicitDefEqProofs <;> omega) | fail) [wrap_i64, wrap_u64, wrap_u8, binV_shr, binV_shl, binV_rem, binV_quo, Int.fdiv_eq_ediv_of_nonneg, Int.tdiv_eq_ediv_of_nonneg, Int.tmod_eq_emod_of_nonneg, callG_body, idxAddr_arr, idxAddr_slc, St.alloc_old, St.alloc_at, St.put_other, St.alloc_put_old, St.alloc_put_new, h1, h2, callI]
  refine Split_spec hl fun xs ys => ?_
  simp -implicitDefEqProofs (disch := first | omega | (simp -implicitDefEqProofs <;> omega) | fail) [wrap_i64, wrap_u64, wrap_u8, binV_shr, binV_shl, binV_rem, binV_quo, Int.fdiv_eq_ediv_of_nonneg, Int.tdiv_eq_ediv_of_nonneg, Int.tmod_eq_emod_of_nonneg, callG_body, idxAddr_arr, idxAddr_slc, St.alloc_old, St.alloc_at, St.put_other, St.alloc_put_old, St.alloc_put_new, callG_body, wrap_i64]
  refine many_spec hl (by omega) (by omega) ?_
  have hp := pow_le (d := (d + 1).toNat) (by omega)
  have he : 17 - (d + 1).toNat = 16 - d.toNat := by omega
  rw [he] at hp ⊢
  generalize 2 ^ (16 - d.toNat) = q at *
  simp -implicitDefEqProofs (disch := first | omega | (simp -implicitDefEqProofs <;> omega) | fail) [wrap_i64, wrap_u64, wrap_u8, binV_shr, binV_shl, binV_rem, binV_quo, Int.fdiv_eq_ediv_of_nonneg, Int.tdiv_eq_ediv_of_nonneg, Int.tmod_eq_emod_of_nonneg, callG_body, idxAddr_arr, idxAddr_slc, St.alloc_old, St.alloc_at, St.put_other, St.alloc_put_old, St.alloc_put_new, wrap_u64]
  exact kEnd_old (fun b hb => by simp -implicitDefEqProofs (disch := first | omega | (simp -implicitDefEqProofs <;> omega) | fail) [wrap_i64, wrap_u64, wrap_u8, binV_shr, binV_shl, binV_rem, binV_quo, Int.fdiv_eq_ediv_of_nonneg, Int.tdiv_eq_ediv_of_nonneg, Int.tmod_eq_emod_of_nonneg, callG_body, idxAddr_arr, idxAddr_slc, St.alloc_old, St.alloc_at, St.put_other, St.alloc_put_old, St.alloc_put_new]) (bel_tuple (by simp)) (hq xs ys)

end Go.Zz
