/- slices.Insert at the tree's entries. -/
import Derived.Test.YtcjoihkdaoflfaaGreatWd
set_option linter.all false
set_option maxRecDepth 20000
namespace Go.Zz
open Go

variable {laid : Laid}

theorem ovl_body : hasBody P 76 = false := by kernel_rfl
theorem ovl_size : tOvl P 76 = some 34 := by kernel_rfl
theorem ovl_call {C : CallT} {args : List Value} {k : Post} {s : St} : callG P C 76 args k s = ovlW (some 34) args k s := by
  rw [callG, ovl_body, ovl_size]

/-- What is put in lies in another row, that goes on; or there is nothing. -/
inductive Apart (s : St) : Value → Option Nat → List Hd → Prop
  | nil {v : Value} {ρ : Option Nat} : heldE.Sl s v [] → Apart s v ρ []
  | row {b c : Nat} {ρ : Option Nat} {ys : List Hd} {post : List Value} : ys ≠ [] → b < s.next → some b ≠ ρ → s.heap b = some (.cells (heldE.row ys ++ post) true) → Apart s (.slice (some ⟨b, 0, none⟩) ys.length c) ρ ys
theorem Apart.sl {s : St} {v : Value} {ρ : Option Nat} {ys : List Hd} (h : Apart s v ρ ys) : heldE.Sl s v ys := by
  cases h with
  | nil h => exact h
  | row _ _ _ hb => exact .row ⟨[], _, _, hb, rfl⟩

theorem InsHeld_spec (hl : Bare laid) {v u : Value} {ρ : Option Nat} {xs ys : List Hd} {i : Nat} {Q : Post} {s : St} (hv : heldE.Own s v ρ xs) (hu : Apart s u ρ ys) (hlen : xs.length < 1000000) (hlen' : ys.length < 1000000) (hi : i ≤ xs.length) (hne : xs ≠ [] ∨ ys ≠ [] ∨ True)
    (hq : ∀ v' s' ρ', heldE.Own s' v' ρ' (xs.take i ++ (ys ++ xs.drop i)) → s.next ≤ s'.next → Grew s ρ ρ' → (∀ b, b < s.next → some b ≠ ρ → s'.heap b = s.heap b) → Q v' s') : CC laid 37 [v, .int .i64 i, u] Q s := by
  refine calls_body (hl 37 (by decide)) ?_
  rw [f37xeq, f37xS]
  have hlenu := hu.sl.len (P := P) (t := 84) (s' := s) y_P_underlying_84
  by_cases hy : ys = []
  · subst hy
    have := hq v s ρ (by simpa using hv) (Nat.le_refl _) (.inl rfl) (fun _ _ _ => rfl)
    cases hv with
    | nil =>
      have hi0 : i = 0 := by simpa using hi
      subst hi0
      simp -implicitDefEqProofs (disch := first | omega | (simp -implicitDefEqProofs <;> omega) | fail) [wrap_i64, wrap_u64, wrap_u8, binV_shr, binV_shl, binV_rem, binV_quo, Int.fdiv_eq_ediv_of_nonneg, Int.tdiv_eq_ediv_of_nonneg, Int.tmod_eq_emod_of_nonneg, callG_body, idxAddr_arr, idxAddr_slc, St.alloc_old, St.alloc_at, St.put_other, St.alloc_put_old, St.alloc_put_new, hlenu]
      exact this
    | row hlt hb hc =>
      have hc2 := hc.two
      simp -implicitDefEqProofs (disch := first | omega | (simp -implicitDefEqProofs <;> omega) | fail) [wrap_i64, wrap_u64, wrap_u8, binV_shr, binV_shl, binV_rem, binV_quo, Int.fdiv_eq_ediv_of_nonneg, Int.tdiv_eq_ediv_of_nonneg, Int.tmod_eq_emod_of_nonneg, callG_body, idxAddr_arr, idxAddr_slc, St.alloc_old, St.alloc_at, St.put_other, St.alloc_put_old, St.alloc_put_new, hlenu]
      exact this
  · have hm : ¬ ys.length = 0 := by simpa using hy
    have hm' : ¬ (ys.length : Int) = 0 := by omega
    by_cases hin : i = xs.length
    · subst hin
      have hnews := hu.sl.news (P := P) (t := 84) (bytes := 48) (zero := (.int .i64 0) :: (.int .u64 0) :: u8s (zs 32)) y_tZeros_84
      have happ : ∀ (k : Post), (∀ v' s', k v' s' = kEnd Q s (some v') s') → appW 34 48 v (some (ys.length, heldE.row ys)) k s := fun k hk => by
        refine hv.append (by decide) (by omega) (by omega) fun v' s' ρ' h1 h2 h3 h4 _ => ?_
        rw [hk]
        exact kEnd_keep (hq v' s' ρ' (by simpa using h1) h2 h3 h4)
      cases hv with
      | nil =>
        simp -implicitDefEqProofs (disch := first | omega | (simp -implicitDefEqProofs <;> omega) | fail) [wrap_i64, wrap_u64, wrap_u8, binV_shr, binV_shl, binV_rem, binV_quo, Int.fdiv_eq_ediv_of_nonneg, Int.tdiv_eq_ediv_of_nonneg, Int.tmod_eq_emod_of_nonneg, callG_body, idxAddr_arr, idxAddr_slc, St.alloc_old, St.alloc_at, St.put_other, St.alloc_put_old, St.alloc_put_new, hlenu, hy, hm', f37xJ4, hnews]
        refine happ _ fun v' s' => ?_
        simp -implicitDefEqProofs (disch := first | omega | (simp -implicitDefEqProofs <;> omega) | fail) [wrap_i64, wrap_u64, wrap_u8, binV_shr, binV_shl, binV_rem, binV_quo, Int.fdiv_eq_ediv_of_nonneg, Int.tdiv_eq_ediv_of_nonneg, Int.tmod_eq_emod_of_nonneg, callG_body, idxAddr_arr, idxAddr_slc, St.alloc_old, St.alloc_at, St.put_other, St.alloc_put_old, St.alloc_put_new]
      | row hlt hb hc =>
        have hc2 := hc.two
        simp -implicitDefEqProofs (disch := first | omega | (simp -implicitDefEqProofs <;> omega) | fail) [wrap_i64, wrap_u64, wrap_u8, binV_shr, binV_shl, binV_rem, binV_quo, Int.fdiv_eq_ediv_of_nonneg, Int.tdiv_eq_ediv_of_nonneg, Int.tmod_eq_emod_of_nonneg, callG_body, idxAddr_arr, idxAddr_slc, St.alloc_old, St.alloc_at, St.put_other, St.alloc_put_old, St.alloc_put_new, hlenu, hy, hm', f37xJ4, hnews]
        refine happ _ fun v' s' => ?_
        simp -implicitDefEqProofs (disch := first | omega | (simp -implicitDefEqProofs <;> omega) | fail) [wrap_i64, wrap_u64, wrap_u8, binV_shr, binV_shl, binV_rem, binV_quo, Int.fdiv_eq_ediv_of_nonneg, Int.tdiv_eq_ediv_of_nonneg, Int.tmod_eq_emod_of_nonneg, callG_body, idxAddr_arr, idxAddr_slc, St.alloc_old, St.alloc_at, St.put_other, St.alloc_put_old, St.alloc_put_new]
    · have hilt : i < xs.length := by omega
      cases hu with
      | nil => exact absurd rfl hy
      | @row ub uc _ _ upost _ hubn hub hur =>
      cases hv with
      | nil => simp at hilt
      | row hlt hb hc =>
        rename_i b c post tl
        have hc2 := hc.two
        have hne : ¬ (i : Int) = xs.length := by omega
        have hubb : ub ≠ b := fun e => hub (by rw [e])
        simp -implicitDefEqProofs (disch := first | omega | (simp -implicitDefEqProofs <;> omega) | fail) [wrap_i64, wrap_u64, wrap_u8, binV_shr, binV_shl, binV_rem, binV_quo, Int.fdiv_eq_ediv_of_nonneg, Int.tdiv_eq_ediv_of_nonneg, Int.tmod_eq_emod_of_nonneg, callG_body, idxAddr_arr, idxAddr_slc, St.alloc_old, St.alloc_at, St.put_other, St.alloc_put_old, St.alloc_put_new, hlenu, hy, hm', hne, f37xJ4, f37xJ3]
        refine capW_own y_tSlice_84 (by decide) hb hc fun n post' tl' s' hb' hn' hold hn1 hn2 hn3 hcap => ?_
        have hur' : s'.heap ub = some (.cells (heldE.row ys ++ upost) true) := (hold _ hubb).trans hur
        by_cases hfit : (n : Int) < xs.length + ys.length
        · simp -implicitDefEqProofs (disch := first | omega | (simp -implicitDefEqProofs <;> omega) | fail) [wrap_i64, wrap_u64, wrap_u8, binV_shr, binV_shl, binV_rem, binV_quo, Int.fdiv_eq_ediv_of_nonneg, Int.tdiv_eq_ediv_of_nonneg, Int.tmod_eq_emod_of_nonneg, callG_body, idxAddr_arr, idxAddr_slc, St.alloc_old, St.alloc_at, St.put_other, St.alloc_put_old, St.alloc_put_new, hfit, newsA_int y_tZeros_3]
          refine appW_grow hb' (by omega) (by omega) (by omega) (by simp; omega) (hcap.imp (fun h => ⟨h.1, h.2.1, by simp; omega⟩) (fun h => ⟨h.1, by omega⟩)) ?_
          have e3 : i + (xs.length + ys.length - i) = xs.length + ys.length := by omega
          rw [List.take_append_of_le_length (by simp; omega), Enc.row_take hi, e3]
          simp -implicitDefEqProofs (disch := first | omega | (simp -implicitDefEqProofs <;> omega) | fail) [wrap_i64, wrap_u64, wrap_u8, binV_shr, binV_shl, binV_rem, binV_quo, Int.fdiv_eq_ediv_of_nonneg, Int.tdiv_eq_ediv_of_nonneg, Int.tmod_eq_emod_of_nonneg, callG_body, idxAddr_arr, idxAddr_slc, St.alloc_old, St.alloc_at, St.put_other, St.alloc_put_old, St.alloc_put_new, hn', hold]
          have hAl : (heldE.row (xs.take i)).length = i * 34 := by simp; omega
          have m1 : Nat.min ys.length (xs.length + ys.length - i) = ys.length := Nat.min_eq_left (by omega)
          have m2 : Nat.min (xs.length - i) (xs.length + ys.length - (i + ys.length)) = xs.length - i := Nat.min_eq_left (by omega)
          have t1 : ((heldE.row ys ++ upost).drop 0).take (ys.length * 34) = heldE.row ys := by rw [List.drop_zero, List.take_append_of_le_length (by simp)]; exact List.take_of_length_le (by simp)
          have t2 : ((heldE.row xs ++ post').drop (i * 34)).take ((xs.length - i) * 34) = heldE.row (xs.drop i) := by
            rw [List.drop_append_of_le_length (by simp; omega), Enc.row_drop hi, List.take_append_of_le_length (by simp)]
            exact List.take_of_length_le (by simp)
          refine copyW_raw (St.alloc_at (by omega)) ((St.alloc_old (by omega)).trans hur') (by simp) (by rw [m1]; simp; omega) ?_
          rw [m1, t1]
          refine copyW_raw St.put_self (((St.put_other (by omega)).trans (St.alloc_old (by omega))).trans hb') (by simp; omega) (by rw [m2, lwr_length (by simp; omega)]; simp; omega) ?_
          rw [m2, t2]
          have hrow := lwr_lwr (A := heldE.row (xs.take i)) (Z := zeros (.int .i64 0 :: .int .u64 0 :: u8s (zs 32)) ((xs.length + ys.length - i) * 34)) (X := heldE.row ys) (Y := heldE.row (xs.drop i)) (by simp; omega)
          rw [hAl, Enc.row_length, ← Nat.add_mul] at hrow
          rw [hrow]
          refine kEnd_keep (hq _ _ (some s.next) ?_ (by simp; omega) (.inr ⟨_, rfl, Nat.le_refl _⟩) (fun b' hb2 hne2 => ?_))
          · have := Enc.Own.row (E := heldE) (s := ((s'.alloc (.cells (heldE.row (xs.take i) ++ zeros (.int .i64 0 :: .int .u64 0 :: u8s (zs 32)) ((xs.length + ys.length - i) * 34)) true)).put s.next
              (.cells (lwr (heldE.row (xs.take i) ++ zeros (.int .i64 0 :: .int .u64 0 :: u8s (zs 32)) ((xs.length + ys.length - i) * 34)) (i * 34) (heldE.row ys)) true)).put s.next (.cells (heldE.row (xs.take i) ++ (heldE.row ys ++ heldE.row (xs.drop i))) true))
              (b := s.next) (c := top + 34) (xs := xs.take i ++ (ys ++ xs.drop i)) (post := []) (tl := true) (by simp; omega) (by rw [St.put_self]; simp [Enc.row_append]) (.inl rfl)
            have e4 : (xs.take i ++ (ys ++ xs.drop i)).length = xs.length + ys.length := by simp; omega
            rwa [e4] at this
          · rw [St.put_other (by omega), St.put_other (by omega), St.alloc_old (by omega), hold _ (fun e => hne2 (by rw [e]))]
        · have hfit2 : xs.length + ys.length ≤ n := by omega
          have htot : (xs.length + ys.length) * 34 ≤ xs.length * 34 + post'.length := by rcases hcap with h | h <;> omega
          have hcE : c = top + 34 ∨ c < top ∧ (xs.length : Int) + ys.length ≤ c := hcap.imp (fun h => h.1) (fun h => ⟨h.1, by omega⟩)
          simp -implicitDefEqProofs (disch := first | omega | (simp -implicitDefEqProofs <;> omega) | fail) [wrap_i64, wrap_u64, wrap_u8, binV_shr, binV_shl, binV_rem, binV_quo, Int.fdiv_eq_ediv_of_nonneg, Int.tdiv_eq_ediv_of_nonneg, Int.tmod_eq_emod_of_nonneg, callG_body, idxAddr_arr, idxAddr_slc, St.alloc_old, St.alloc_at, St.put_other, St.alloc_put_old, St.alloc_put_new, hfit, f37xJ2]
          rw [slcV_ext y_P_underlying_84 y_esz_84 hb' (by simp) (by omega) (by simp) (by simp; omega) hcE]
          have hcF : c = top + 34 ∨ c < top ∧ xs.length + ys.length ≤ c := hcap.imp (fun h => h.1) (fun h => ⟨h.1, by omega⟩)
          simp -implicitDefEqProofs (disch := first | omega | (simp -implicitDefEqProofs <;> omega) | fail) [wrap_i64, wrap_u64, wrap_u8, binV_shr, binV_shl, binV_rem, binV_quo, Int.fdiv_eq_ediv_of_nonneg, Int.tdiv_eq_ediv_of_nonneg, Int.tmod_eq_emod_of_nonneg, callG_body, idxAddr_arr, idxAddr_slc, St.alloc_old, St.alloc_at, St.put_other, St.alloc_put_old, St.alloc_put_new, ovl_call]
          have m1 : Nat.min (xs.length + ys.length - i) (xs.length + ys.length - (i + ys.length)) = xs.length - i := (Nat.min_eq_right (by omega)).trans (by omega)
          have m2 : Nat.min ys.length (xs.length + ys.length - i) = ys.length := Nat.min_eq_left (by omega)
          have t1 : ((heldE.row ys ++ upost).drop 0).take (ys.length * 34) = heldE.row ys := by rw [List.drop_zero, List.take_append_of_le_length (by simp)]; exact List.take_of_length_le (by simp)
          have t2 : ((heldE.row xs ++ post').drop (i * 34)).take ((xs.length - i) * 34) = heldE.row (xs.drop i) := by
            rw [List.drop_append_of_le_length (by simp; omega), Enc.row_drop hi, List.take_append_of_le_length (by simp)]
            exact List.take_of_length_le (by simp)
          refine ovlW_apart hubb hur' hb' (by simp) (by simp; omega) ?_
          simp -implicitDefEqProofs (disch := first | omega | (simp -implicitDefEqProofs <;> omega) | fail) [wrap_i64, wrap_u64, wrap_u8, binV_shr, binV_shl, binV_rem, binV_quo, Int.fdiv_eq_ediv_of_nonneg, Int.tdiv_eq_ediv_of_nonneg, Int.tmod_eq_emod_of_nonneg, callG_body, idxAddr_arr, idxAddr_slc, St.alloc_old, St.alloc_at, St.put_other, St.alloc_put_old, St.alloc_put_new]
          refine copyW_raw hb' hb' (by simp; omega) (by rw [m1]; simp; omega) ?_
          rw [m1, t2]
          simp -implicitDefEqProofs (disch := first | omega | (simp -implicitDefEqProofs <;> omega) | fail) [wrap_i64, wrap_u64, wrap_u8, binV_shr, binV_shl, binV_rem, binV_quo, Int.fdiv_eq_ediv_of_nonneg, Int.tdiv_eq_ediv_of_nonneg, Int.tmod_eq_emod_of_nonneg, callG_body, idxAddr_arr, idxAddr_slc, St.alloc_old, St.alloc_at, St.put_other, St.alloc_put_old, St.alloc_put_new]
          refine copyW_raw St.put_self ((St.put_other hubb).trans hur') (by simp) (by rw [m2, lwr_length (by simp; omega)]; simp; omega) ?_
          rw [m2, t1]
          have hAl : (heldE.row (xs.take i)).length = i * 34 := by simp; omega
          have hsplit : heldE.row xs ++ post' = heldE.row (xs.take i) ++ (heldE.row (xs.drop i) ++ post') := by
            rw [← List.append_assoc, ← Enc.row_append, List.take_append_drop]
          have hrow := lwr_lwr' (A := heldE.row (xs.take i)) (Z := heldE.row (xs.drop i) ++ post') (X := heldE.row ys) (Y := heldE.row (xs.drop i)) (by simp; omega)
          rw [hAl, Enc.row_length, ← Nat.add_mul, ← hsplit] at hrow
          rw [hrow]
          simp -implicitDefEqProofs (disch := first | omega | (simp -implicitDefEqProofs <;> omega) | fail) [wrap_i64, wrap_u64, wrap_u8, binV_shr, binV_shl, binV_rem, binV_quo, Int.fdiv_eq_ediv_of_nonneg, Int.tdiv_eq_ediv_of_nonneg, Int.tmod_eq_emod_of_nonneg, callG_body, idxAddr_arr, idxAddr_slc, St.alloc_old, St.alloc_at, St.put_other, St.alloc_put_old, St.alloc_put_new]
          refine kEnd_keep (hq _ _ (some b) ?_ (by simp; omega) (.inl rfl) (fun b' hb2 hne2 => ?_))
          · have e4 : (xs.take i ++ (ys ++ xs.drop i)).length = xs.length + ys.length := by simp; omega
            have := Enc.Own.row (E := heldE) (s := s'.put b (.cells (heldE.row (xs.take i) ++ (heldE.row ys ++ (heldE.row (xs.drop i) ++ (heldE.row (xs.drop i) ++ post').drop (ys.length * 34 + (xs.drop i).length * 34)))) tl'))
              (b := b) (c := c) (xs := xs.take i ++ (ys ++ xs.drop i)) (post := (heldE.row (xs.drop i) ++ post').drop (ys.length * 34 + (xs.drop i).length * 34)) (tl := tl') (by simp; omega) (by rw [St.put_self]; simp [Enc.row_append])
              (hcap.imp (fun h => h.1) (fun h => ⟨h.1, by rw [e4]; omega, by rw [e4]; simp; omega⟩))
            rw [e4] at this
            simpa using this
          · rw [St.put_other (fun e => hne2 (by rw [e])), hold _ (fun e => hne2 (by rw [e]))]

end Go.Zz
