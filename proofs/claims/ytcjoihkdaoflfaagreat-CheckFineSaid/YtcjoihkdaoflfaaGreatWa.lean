/- Words for bytes; the order of numbers; powers of two; the little cipher. -/
import Derived.Test.YtcjoihkdaoflfaaGreatV
set_option linter.all false
set_option maxRecDepth 20000
namespace Go.Zz
open Go

variable {laid : Laid}
abbrev CC (laid : Laid) : CallT := calls P wips laid
/-- Nothing is laid but in the place of slices.SortFunc. -/
def Bare (laid : Laid) : Prop := ∀ f, f ≠ 34 → laid f = none

@[simp] theorem lenR_slice {t e : TypeId} {a : Option Addr} {n c : Nat} {s : St} (h : P.underlying t = some (.slice e)) : lenR P t (.slice a n c) s = some (.int .i64 n) := by
  simp [lenR, lenV, h]

def u8s (ks : List Int) : List Value := ks.map (.int .u8 ·)
@[simp] theorem u8s_length (ks : List Int) : (u8s ks).length = ks.length := by simp [u8s]
@[simp] theorem u8s_getElem {ks : List Int} {i : Nat} (h : i < (u8s ks).length) : (u8s ks)[i] = .int .u8 (ks[i]'(by simpa using h)) := by simp [u8s]
@[simp] theorem u8s_get? {ks : List Int} {i : Nat} : (u8s ks)[i]? = (ks[i]?).map (.int .u8 ·) := by simp [u8s]
@[simp] theorem u8s_set (ks : List Int) (i : Nat) (x : Int) : (u8s ks).set i (.int .u8 x) = u8s (ks.set i x) := by simp [u8s, List.map_set]
@[simp] theorem u8s_take (ks : List Int) (i : Nat) : (u8s ks).take i = u8s (ks.take i) := by simp [u8s]
@[simp] theorem u8s_drop (ks : List Int) (i : Nat) : (u8s ks).drop i = u8s (ks.drop i) := by simp [u8s]
def zs (n : Nat) : List Int := List.replicate n 0
@[simp] theorem zs_length (n : Nat) : (zs n).length = n := by simp [zs]
@[simp] theorem rep_u8s (n : Nat) : rep n (.int .u8 0) = u8s (zs n) := by simp [u8s, zs, rep]
/-- Bytes, so many. -/
abbrev Bytes (n : Nat) := { l : List Int // l.length = n }
@[simp] theorem Bytes.len {n : Nat} (x : Bytes n) : x.1.length = n := x.2
@[simp] theorem Bytes.take {n : Nat} (x : Bytes n) : x.1.take n = x.1 := List.take_of_length_le (by simp)
@[simp] theorem belL_u8s {n : Nat} {ks : List Int} : BelL n (u8s ks) := fun x hx => by
  simp [u8s] at hx
  obtain ⟨a, _, rfl⟩ := hx
  exact .int _ _

@[simp] theorem lwr_all {vs ys : List Value} (h : vs.length ≤ ys.length) : lwr vs 0 ys = ys := by
  simp [lwr, h]
@[simp] theorem lwr_cons_zero (v x : Value) (vs xs : List Value) : lwr (v :: vs) 0 (x :: xs) = x :: lwr vs 0 xs := by simp [lwr, Nat.add_comm]
@[simp] theorem lwr_zero_nil (vs : List Value) : lwr vs 0 [] = vs := by simp [lwr]
@[simp] theorem lwr_cons_succ (v : Value) (vs xs : List Value) (n : Nat) : lwr (v :: vs) (n + 1) xs = v :: lwr vs n xs := by simp [lwr, Nat.add_right_comm]
theorem lwr_one {vs : List Value} {o : Nat} (h : o < vs.length) (v : Value) : lwr vs o [v] = vs.set o v := by
  apply List.ext_getElem?
  intro i
  simp only [lwr, List.getElem?_set]
  by_cases hi : i < o
  · rw [List.append_assoc, List.getElem?_append_left (by simp; omega)]
    simp [hi, Nat.ne_of_gt hi]
  · by_cases he : o = i
    · subst he
      rw [List.append_assoc, List.getElem?_append_right (by simp; omega)]
      have : o - (List.take o vs).length = 0 := by simp; omega
      rw [this]
      simp [h]
    · rw [List.append_assoc, List.getElem?_append_right (by simp; omega), List.getElem?_append_right (by simp; omega)]
      simp [he]
      congr 1
      omega

theorem isNaN_spec (hl : Bare laid) {a : Int} {Q : Post} {s : St} (h : Q (.bool false) s) : CC laid 75 [.int .u64 a] Q s := by
  refine calls_body (hl 75 (by decide)) ?_
  rw [f75xeq, f75xS]
  simp -implicitDefEqProofs (disch := first | omega | (simp -implicitDefEqProofs <;> omega) | fail) [wrap_i64, wrap_u64, wrap_u8, binV_shr, binV_shl, binV_rem, binV_quo, Int.fdiv_eq_ediv_of_nonneg, Int.tdiv_eq_ediv_of_nonneg, Int.tmod_eq_emod_of_nonneg, callG_body, idxAddr_arr, idxAddr_slc, St.alloc_old, St.alloc_at, St.put_other, St.alloc_put_old, St.alloc_put_new, h]

def cmp3 (a b : Int) : Int := if a < b then -1 else if b < a then 1 else 0

theorem Compare_spec (hl : Bare laid) {a b : Int} {Q : Post} {s : St} (h : Q (.int .i64 (cmp3 a b)) s) : CC laid 36 [.int .u64 a, .int .u64 b] Q s := by
  refine calls_body (hl 36 (by decide)) ?_
  rw [f36xeq, f36xS]
  simp -implicitDefEqProofs (disch := first | omega | (simp -implicitDefEqProofs <;> omega) | fail) [wrap_i64, wrap_u64, wrap_u8, binV_shr, binV_shl, binV_rem, binV_quo, Int.fdiv_eq_ediv_of_nonneg, Int.tdiv_eq_ediv_of_nonneg, Int.tmod_eq_emod_of_nonneg, callG_body, idxAddr_arr, idxAddr_slc, St.alloc_old, St.alloc_at, St.put_other, St.alloc_put_old, St.alloc_put_new, callG_body]
  refine isNaN_spec hl ?_
  simp -implicitDefEqProofs (disch := first | omega | (simp -implicitDefEqProofs <;> omega) | fail) [wrap_i64, wrap_u64, wrap_u8, binV_shr, binV_shl, binV_rem, binV_quo, Int.fdiv_eq_ediv_of_nonneg, Int.tdiv_eq_ediv_of_nonneg, Int.tmod_eq_emod_of_nonneg, callG_body, idxAddr_arr, idxAddr_slc, St.alloc_old, St.alloc_at, St.put_other, St.alloc_put_old, St.alloc_put_new, callG_body]
  refine isNaN_spec hl ?_
  unfold cmp3 at h
  simp -implicitDefEqProofs (disch := first | omega | (simp -implicitDefEqProofs <;> omega) | fail) [wrap_i64, wrap_u64, wrap_u8, binV_shr, binV_shl, binV_rem, binV_quo, Int.fdiv_eq_ediv_of_nonneg, Int.tdiv_eq_ediv_of_nonneg, Int.tmod_eq_emod_of_nonneg, callG_body, idxAddr_arr, idxAddr_slc, St.alloc_old, St.alloc_at, St.put_other, St.alloc_put_old, St.alloc_put_new, f36xJ5, f36xJ4, f36xJ3, f36xJ2]
  split
  · simp_all
  · split <;> simp_all

theorem pow_le {d : Nat} (hd : d ≤ 17) : (2 : Nat) ^ (17 - d) ≤ 131072 := Nat.pow_le_pow_right (n := 2) (i := 17 - d) (j := 17) (by decide) (by omega)

theorem many_spec (hl : Bare laid) {d : Int} (h0 : 0 ≤ d) (hd : d ≤ 17) {Q : Post} {s : St} (h : Q (.int .u64 ((2 ^ (17 - d.toNat) : Nat) : Int)) s) : CC laid 69 [.int .i64 d] Q s := by
  refine calls_body (hl 69 (by decide)) ?_
  rw [f69xeq, f69xS]
  have h3 : (17 - d).toNat = 17 - d.toNat := by omega
  have h4 : min (17 - d.toNat) IntKind.u64.bits = 17 - d.toNat := by show min (17 - d.toNat) 64 = _; omega
  have h6 : (2 : Int) ^ (17 - d.toNat) = ((2 ^ (17 - d.toNat) : Nat) : Int) := by simp
  have hp := pow_le (d := d.toNat) (by omega)
  simp -implicitDefEqProofs (disch := first | omega | (simp -implicitDefEqProofs <;> omega) | fail) [wrap_i64, wrap_u64, wrap_u8, binV_shr, binV_shl, binV_rem, binV_quo, Int.fdiv_eq_ediv_of_nonneg, Int.tdiv_eq_ediv_of_nonneg, Int.tmod_eq_emod_of_nonneg, callG_body, idxAddr_arr, idxAddr_slc, St.alloc_old, St.alloc_at, St.put_other, St.alloc_put_old, St.alloc_put_new, wrap_i64, wrap_u64, binV_shl, h3, h4]
  rw [h6]
  generalize 2 ^ (17 - d.toNat) = q at *
  rw [wrap_u64 (by omega) (by omega)]
  exact h

theorem LitPad_spec (hl : Bare laid) {ks : Bytes 32} {n : Int} {Q : Post} {s : St} (hq : ∀ ds : Bytes 32, Q (.agg (u8s ds.1).toArray) s) : CC laid 279 [.agg (u8s ks.1).toArray, .int .u64 n] Q s := by
  refine calls_body (hl 279 (by decide)) ?_
  rw [f279xeq, f279xS]
  simp -implicitDefEqProofs (disch := first | omega | (simp -implicitDefEqProofs <;> omega) | fail) [wrap_i64, wrap_u64, wrap_u8, binV_shr, binV_shl, binV_rem, binV_quo, Int.fdiv_eq_ediv_of_nonneg, Int.tdiv_eq_ediv_of_nonneg, Int.tmod_eq_emod_of_nonneg, callG_body, idxAddr_arr, idxAddr_slc, St.alloc_old, St.alloc_at, St.put_other, St.alloc_put_old, St.alloc_put_new]
  refine f279xloop0 fun I hI => ?_
  have key : ∀ k i : Nat, i + k = 32 → ∀ (x : Int) (ds : Bytes 32),
      I (.int .u64 n) (.pointer (some ⟨s.next, 0, none⟩)) (.pointer (some ⟨s.next + 1, 0, none⟩)) (.pointer (some ⟨s.next + 1 + 1, 0, none⟩)) (.int .u64 x) (.int .i64 i)
        (((s.alloc (.cells (u8s ks.1) false)).alloc (.cells (u8s (zs 32)) false)).alloc (.cells (u8s ds.1) false)) := by
    intro k
    induction k with
    | zero =>
      intro i hi x ds
      refine hI _ _ _ _ _ _ _ ?_
      have : i = 32 := by omega
      subst this
      simp -implicitDefEqProofs (disch := first | omega | (simp -implicitDefEqProofs <;> omega) | fail) [wrap_i64, wrap_u64, wrap_u8, binV_shr, binV_shl, binV_rem, binV_quo, Int.fdiv_eq_ediv_of_nonneg, Int.tdiv_eq_ediv_of_nonneg, Int.tmod_eq_emod_of_nonneg, callG_body, idxAddr_arr, idxAddr_slc, St.alloc_old, St.alloc_at, St.put_other, St.alloc_put_old, St.alloc_put_new, f279xB0]
      rw [f279xE0x0xeq]
      simp -implicitDefEqProofs (disch := first | omega | (simp -implicitDefEqProofs <;> omega) | fail) [wrap_i64, wrap_u64, wrap_u8, binV_shr, binV_shl, binV_rem, binV_quo, Int.fdiv_eq_ediv_of_nonneg, Int.tdiv_eq_ediv_of_nonneg, Int.tmod_eq_emod_of_nonneg, callG_body, idxAddr_arr, idxAddr_slc, St.alloc_old, St.alloc_at, St.put_other, St.alloc_put_old, St.alloc_put_new, f279xE0x0, f279xJ3]
      exact kEnd_old (fun b hb => by simp -implicitDefEqProofs (disch := first | omega | (simp -implicitDefEqProofs <;> omega) | fail) [wrap_i64, wrap_u64, wrap_u8, binV_shr, binV_shl, binV_rem, binV_quo, Int.fdiv_eq_ediv_of_nonneg, Int.tdiv_eq_ediv_of_nonneg, Int.tmod_eq_emod_of_nonneg, callG_body, idxAddr_arr, idxAddr_slc, St.alloc_old, St.alloc_at, St.put_other, St.alloc_put_old, St.alloc_put_new]) (by simp) (hq ds)
    | succ k ih =>
      intro i hi x ds
      refine hI _ _ _ _ _ _ _ ?_
      have hlt : i < 32 := by omega
      have hlt' : (i : Int) < 32 := by omega
      simp -implicitDefEqProofs (disch := first | omega | (simp -implicitDefEqProofs <;> omega) | fail) [wrap_i64, wrap_u64, wrap_u8, binV_shr, binV_shl, binV_rem, binV_quo, Int.fdiv_eq_ediv_of_nonneg, Int.tdiv_eq_ediv_of_nonneg, Int.tmod_eq_emod_of_nonneg, callG_body, idxAddr_arr, idxAddr_slc, St.alloc_old, St.alloc_at, St.put_other, St.alloc_put_old, St.alloc_put_new, f279xB0, hlt, hlt', f279xJ2, binV_shr, f279xJ1, wrap_i64, lwr_one]
      refine ⟨by omega, ?_⟩
      exact ih (i + 1) (by omega) _ ⟨_, by simp⟩
  exact key 32 0 (by omega) _ ⟨zs 32, by simp⟩

end Go.Zz
