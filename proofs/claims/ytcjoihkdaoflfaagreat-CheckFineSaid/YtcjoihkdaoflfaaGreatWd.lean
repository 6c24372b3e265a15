/- slices.Delete, slices.Insert at the tree's entries. -/
import Derived.Test.YtcjoihkdaoflfaaGreatWc
set_option linter.all false
set_option maxRecDepth 20000
namespace Go.Zz
open Go

variable {laid : Laid}

theorem DelHeld_spec (hl : Bare laid) {v : Value} {ρ : Option Nat} {xs : List Hd} {i j : Nat} {Q : Post} {s : St} (hv : heldE.Own s v ρ xs) (hlen : xs.length < 1000000) (hi : i < j) (hj : j ≤ xs.length)
    (hq : ∀ v' s', heldE.Own s' v' ρ (xs.take i ++ xs.drop j) → s.next ≤ s'.next → (∀ b, b < s.next → some b ≠ ρ → s'.heap b = s.heap b) → Q v' s') : CC laid 38 [v, .int .i64 i, .int .i64 j] Q s := by
  refine calls_body (hl 38 (by decide)) ?_
  rw [f38xeq, f38xS]
  cases hv with
  | nil => simp at hj; omega
  | row hlt hb hc =>
    rename_i b c post tl
    have e1 : (xs.take i).length = i := by simp; omega
    have hc2 := hc.two
    have hA : heldE.At s b 0 xs := ⟨[], _, _, hb, rfl⟩
    have hn := (Enc.Sl.row (c := capFrom 34 c j) (hA.drop hj)).news (P := P) (t := 84) (bytes := 48) (zero := (.int .i64 0) :: (.int .u64 0) :: u8s (zs 32)) y_tZeros_84
    simp only [List.length_drop, Nat.zero_add] at hn
    have hij : ¬ (i : Int) = j := by omega
    simp -implicitDefEqProofs (disch := first | omega | (simp -implicitDefEqProofs <;> omega) | fail) [wrap_i64, wrap_u64, wrap_u8, binV_shr, binV_shl, binV_rem, binV_quo, Int.fdiv_eq_ediv_of_nonneg, Int.tdiv_eq_ediv_of_nonneg, Int.tmod_eq_emod_of_nonneg, callG_body, idxAddr_arr, idxAddr_slc, St.alloc_old, St.alloc_at, St.put_other, St.alloc_put_old, St.alloc_put_new, hij, f38xJ1, hn]
    have hd := lwr_at (pre := heldE.row (xs.take i)) (mid := heldE.row ((xs.drop i).take (xs.length - j))) (post := heldE.row ((xs.drop i).drop (xs.length - j)) ++ post) (xs := heldE.row (xs.drop j)) (by simp; omega)
    have hs : heldE.row (xs.take i) ++ (heldE.row ((xs.drop i).take (xs.length - j)) ++ (heldE.row ((xs.drop i).drop (xs.length - j)) ++ post)) = heldE.row xs ++ post := by
      rw [← List.append_assoc (heldE.row ((xs.drop i).take _)), ← Enc.row_append, List.take_append_drop, ← List.append_assoc, ← Enc.row_append, List.take_append_drop]
    rw [hs] at hd
    simp only [Enc.row_length, e1] at hd
    refine appW_in hb (by omega) (by omega) (by simp; omega) (by simp) (hc2.imp id fun h => ⟨h.1, by omega⟩) ?_
    rw [hd]
    simp -implicitDefEqProofs (disch := first | omega | (simp -implicitDefEqProofs <;> omega) | fail) [wrap_i64, wrap_u64, wrap_u8, binV_shr, binV_shl, binV_rem, binV_quo, Int.fdiv_eq_ediv_of_nonneg, Int.tdiv_eq_ediv_of_nonneg, Int.tmod_eq_emod_of_nonneg, callG_body, idxAddr_arr, idxAddr_slc, St.alloc_old, St.alloc_at, St.put_other, St.alloc_put_old, St.alloc_put_new]
    rw [slcV_ext y_P_underlying_84 y_esz_84 St.put_self (by simp; omega) (by omega) (by simp; omega) (by simp; omega) (hc2.imp id fun h => ⟨h.1, by omega⟩)]
    simp -implicitDefEqProofs (disch := first | omega | (simp -implicitDefEqProofs <;> omega) | fail) [wrap_i64, wrap_u64, wrap_u8, binV_shr, binV_shl, binV_rem, binV_quo, Int.fdiv_eq_ediv_of_nonneg, Int.tdiv_eq_ediv_of_nonneg, Int.tmod_eq_emod_of_nonneg, callG_body, idxAddr_arr, idxAddr_slc, St.alloc_old, St.alloc_at, St.put_other, St.alloc_put_old, St.alloc_put_new]
    refine clearW_in y_tSlice_84 (by omega) St.put_self (by simp; omega) ?_
    simp -implicitDefEqProofs (disch := first | omega | (simp -implicitDefEqProofs <;> omega) | fail) [wrap_i64, wrap_u64, wrap_u8, binV_shr, binV_shl, binV_rem, binV_quo, Int.fdiv_eq_ediv_of_nonneg, Int.tdiv_eq_ediv_of_nonneg, Int.tmod_eq_emod_of_nonneg, callG_body, idxAddr_arr, idxAddr_slc, St.alloc_old, St.alloc_at, St.put_other, St.alloc_put_old, St.alloc_put_new]
    have hz := lwr_at (pre := heldE.row (xs.take i ++ xs.drop j)) (mid := heldE.row (xs.drop (i + (xs.length - j)))) (post := post) (xs := zeros (.int .i64 0 :: .int .u64 0 :: u8s (zs 32)) ((xs.length - (i + (xs.length - j))) * 34)) (by simp)
    have hm3 : (heldE.row (xs.take i ++ xs.drop j)).length = (i + (xs.length - j)) * 34 := by simp [e1]
    rw [hm3, Enc.row_append, List.append_assoc] at hz
    rw [hz]
    refine kEnd_keep (hq _ _ ?_ (by simp) (fun b' hb' hne => St.put_other (fun e => hne (by rw [e]))))
    have := Enc.Own.row (E := heldE) (s := s.put b (.cells (heldE.row (xs.take i ++ xs.drop j) ++ (zeros (.int .i64 0 :: .int .u64 0 :: u8s (zs 32)) ((xs.length - (i + (xs.length - j))) * 34) ++ post)) tl)) (b := b) (c := c) (xs := xs.take i ++ xs.drop j) (by simpa using hlt) St.put_self
      (hc.imp id fun h => ⟨h.1, by simp; omega, by simp; omega⟩)
    simpa [e1, Enc.row_append] using this

end Go.Zz
