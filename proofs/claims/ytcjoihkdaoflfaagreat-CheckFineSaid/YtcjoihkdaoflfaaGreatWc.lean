/- Binary search in the tree's entries; which entry has a number. -/
import Derived.Test.YtcjoihkdaoflfaaGreatWb
set_option linter.all false
set_option maxRecDepth 20000
namespace Go.Zz
open Go

variable {laid : Laid}

/-- An entry of the tree: how deep, its first number, its key's bytes. -/
structure Hd where
  d : Nat
  f : Nat
  key : Bytes 32
def heldE : Enc Hd 34 := ⟨fun h => .int .i64 h.d :: .int .u64 h.f :: u8s h.key.1, fun h => by simp⟩
@[simp] theorem heldE_cells (h : Hd) : heldE.cells h = .int .i64 h.d :: .int .u64 h.f :: u8s h.key.1 := rfl

theorem BinHeld_spec (hl : Bare laid) {v tv f : Value} {xs : List Hd} {c : Nat → Int} {k : Nat} {Q : Post} {s : St} (hv : heldE.Sl s v xs) (hlen : xs.length < 1000000000)
    (hc : ∀ i (hi : i < xs.length) (Q : Post), Q (.int .i64 (c i)) s → callF P (CC laid) f [.agg (heldE.cells xs[i]).toArray, tv] Q s)
    (hk : k ≤ xs.length) (h1 : ∀ i, i < k → c i < 0) (h2 : ∀ i, k ≤ i → i < xs.length → 0 ≤ c i)
    (hq : Q (.tuple #[.int .i64 k, .bool (decide (k < xs.length) && decide (c k = 0))]) s) : CC laid 70 [v, tv, f] Q s := by
  refine calls_body (hl 70 (by decide)) ?_
  rw [f70xeq, f70xS]
  simp -implicitDefEqProofs (disch := first | omega | (simp -implicitDefEqProofs <;> omega) | fail) [wrap_i64, wrap_u64, wrap_u8, binV_shr, binV_shl, binV_rem, binV_quo, Int.fdiv_eq_ediv_of_nonneg, Int.tdiv_eq_ediv_of_nonneg, Int.tmod_eq_emod_of_nonneg, callG_body, idxAddr_arr, idxAddr_slc, St.alloc_old, St.alloc_at, St.put_other, St.alloc_put_old, St.alloc_put_new, hv.len y_P_underlying_84]
  refine f70xloop0 fun I hI => ?_
  have fin : ∀ i j : Nat, i = k → j = k → f70xB0 (CC laid) (f70xK4 (CC laid) Q s) I v tv f (.int .i64 xs.length) (.int .i64 i) (.int .i64 j) s := by
    rintro i j rfl rfl
    simp -implicitDefEqProofs (disch := first | omega | (simp -implicitDefEqProofs <;> omega) | fail) [wrap_i64, wrap_u64, wrap_u8, binV_shr, binV_shl, binV_rem, binV_quo, Int.fdiv_eq_ediv_of_nonneg, Int.tdiv_eq_ediv_of_nonneg, Int.tmod_eq_emod_of_nonneg, callG_body, idxAddr_arr, idxAddr_slc, St.alloc_old, St.alloc_at, St.put_other, St.alloc_put_old, St.alloc_put_new, f70xB0]
    rw [f70xE0x0xeq]
    simp -implicitDefEqProofs (disch := first | omega | (simp -implicitDefEqProofs <;> omega) | fail) [wrap_i64, wrap_u64, wrap_u8, binV_shr, binV_shl, binV_rem, binV_quo, Int.fdiv_eq_ediv_of_nonneg, Int.tdiv_eq_ediv_of_nonneg, Int.tmod_eq_emod_of_nonneg, callG_body, idxAddr_arr, idxAddr_slc, St.alloc_old, St.alloc_at, St.put_other, St.alloc_put_old, St.alloc_put_new, f70xE0x0, f70xJ2]
    by_cases hlt : j < xs.length
    · obtain ⟨b, o, cc, rfl, hA⟩ := hv.ne (by intro e; simp [e] at hlt)
      simp -implicitDefEqProofs (disch := first | omega | (simp -implicitDefEqProofs <;> omega) | fail) [wrap_i64, wrap_u64, wrap_u8, binV_shr, binV_shl, binV_rem, binV_quo, Int.fdiv_eq_ediv_of_nonneg, Int.tdiv_eq_ediv_of_nonneg, Int.tmod_eq_emod_of_nonneg, callG_body, idxAddr_arr, idxAddr_slc, St.alloc_old, St.alloc_at, St.put_other, St.alloc_put_old, St.alloc_put_new, hlt, hA.agg hlt]
      refine hc j hlt _ ?_
      simp -implicitDefEqProofs (disch := first | omega | (simp -implicitDefEqProofs <;> omega) | fail) [wrap_i64, wrap_u64, wrap_u8, binV_shr, binV_shl, binV_rem, binV_quo, Int.fdiv_eq_ediv_of_nonneg, Int.tdiv_eq_ediv_of_nonneg, Int.tmod_eq_emod_of_nonneg, callG_body, idxAddr_arr, idxAddr_slc, St.alloc_old, St.alloc_at, St.put_other, St.alloc_put_old, St.alloc_put_new]
      simpa [hlt] using hq
    · simp -implicitDefEqProofs (disch := first | omega | (simp -implicitDefEqProofs <;> omega) | fail) [wrap_i64, wrap_u64, wrap_u8, binV_shr, binV_shl, binV_rem, binV_quo, Int.fdiv_eq_ediv_of_nonneg, Int.tdiv_eq_ediv_of_nonneg, Int.tmod_eq_emod_of_nonneg, callG_body, idxAddr_arr, idxAddr_slc, St.alloc_old, St.alloc_at, St.put_other, St.alloc_put_old, St.alloc_put_new, hlt]
      simpa [hlt] using hq
  have key : ∀ n i j : Nat, j - i ≤ n → i ≤ k → k ≤ j → j ≤ xs.length → I v tv f (.int .i64 xs.length) (.int .i64 i) (.int .i64 j) s := by
    intro n
    induction n with
    | zero =>
      intro i j hn hi hj hjl
      exact hI _ _ _ _ _ _ _ (fin i j (by omega) (by omega))
    | succ n ih =>
      intro i j hn hi hj hjl
      refine hI _ _ _ _ _ _ _ ?_
      by_cases hij : i < j
      · obtain ⟨b, o, cc, rfl, hA⟩ := hv.ne (by intro e; simp [e] at hjl; omega)
        obtain ⟨m, hmd⟩ : ∃ m : Nat, m = (i + j) / 2 := ⟨_, rfl⟩
        have hm : ((i : Int) + j) / 2 = m := by omega
        have hlt : m < xs.length := by omega
        simp -implicitDefEqProofs (disch := first | omega | (simp -implicitDefEqProofs <;> omega) | fail) [wrap_i64, wrap_u64, wrap_u8, binV_shr, binV_shl, binV_rem, binV_quo, Int.fdiv_eq_ediv_of_nonneg, Int.tdiv_eq_ediv_of_nonneg, Int.tmod_eq_emod_of_nonneg, callG_body, idxAddr_arr, idxAddr_slc, St.alloc_old, St.alloc_at, St.put_other, St.alloc_put_old, St.alloc_put_new, f70xB0, hij, f70xJ1, hm, hA.agg hlt]
        refine hc _ hlt _ ?_
        simp -implicitDefEqProofs (disch := first | omega | (simp -implicitDefEqProofs <;> omega) | fail) [wrap_i64, wrap_u64, wrap_u8, binV_shr, binV_shl, binV_rem, binV_quo, Int.fdiv_eq_ediv_of_nonneg, Int.tdiv_eq_ediv_of_nonneg, Int.tmod_eq_emod_of_nonneg, callG_body, idxAddr_arr, idxAddr_slc, St.alloc_old, St.alloc_at, St.put_other, St.alloc_put_old, St.alloc_put_new]
        by_cases hck : c m < 0
        · simp -implicitDefEqProofs (disch := first | omega | (simp -implicitDefEqProofs <;> omega) | fail) [wrap_i64, wrap_u64, wrap_u8, binV_shr, binV_shl, binV_rem, binV_quo, Int.fdiv_eq_ediv_of_nonneg, Int.tdiv_eq_ediv_of_nonneg, Int.tmod_eq_emod_of_nonneg, callG_body, idxAddr_arr, idxAddr_slc, St.alloc_old, St.alloc_at, St.put_other, St.alloc_put_old, St.alloc_put_new, hck]
          exact ih (m + 1) j (by omega) (by have := h2 m; omega) hj hjl
        · simp -implicitDefEqProofs (disch := first | omega | (simp -implicitDefEqProofs <;> omega) | fail) [wrap_i64, wrap_u64, wrap_u8, binV_shr, binV_shl, binV_rem, binV_quo, Int.fdiv_eq_ediv_of_nonneg, Int.tdiv_eq_ediv_of_nonneg, Int.tmod_eq_emod_of_nonneg, callG_body, idxAddr_arr, idxAddr_slc, St.alloc_old, St.alloc_at, St.put_other, St.alloc_put_old, St.alloc_put_new, hck]
          exact ih i m (by omega) hi (by have := h1 m; omega) (by omega)
      · exact fin i j (by omega) (by omega)
  exact key xs.length 0 xs.length (by omega) (by omega) hk (by omega)

end Go.Zz
