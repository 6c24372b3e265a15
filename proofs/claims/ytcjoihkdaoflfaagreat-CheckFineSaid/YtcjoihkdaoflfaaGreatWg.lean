/- 'down', walked. -/
import Derived.Test.YtcjoihkdaoflfaaGreatWf
set_option linter.all false
set_option maxRecDepth 20000
namespace Go.Zz
open Go

variable {laid : Laid}

set_option maxRecDepth 20000 in
theorem down_spec (hl : Bare laid) {tp : Nat} {h : Hd} (hok : h.Ok) {n : Nat} (hcov : h.Cov n) {r : Nat} {v : Value} {tl tlt : Bool} {ρ : Option Nat} {cv : List Value} {hv : Value} {Q : Post} {s : St}
    (ht : s.heap tp = some (.cells [.iface 40 (.agg cv.toArray), hv] tlt)) (htr : tp ≠ r) (htρ : some tp ≠ ρ) (htn : tp < s.next) (hr : s.heap r = some (.cells [v] tl)) (hrn : r < s.next) (ho : heldE.Own s v ρ []) (hrρ : some r ≠ ρ)
    (hq : ∀ v' s' ρ' rest u, s'.heap r = some (.cells [v'] tl) → heldE.Own s' v' ρ' rest → some r ≠ ρ' → s.next ≤ s'.next → Grew s ρ ρ' → (∀ b, b < s.next → b ≠ r → some b ≠ ρ → s'.heap b = s.heap b) → (Long s ρ → Long s' ρ') →
      rest.length ≤ 17 → (∀ x ∈ rest, x.Ok) → (∀ m, (∃ x ∈ rest, x.Cov m) ↔ h.Cov m ∧ m ≠ n) → rest.Pairwise Disj → Q u s') :
    CC laid 32 [.pointer (some ⟨tp, 0, none⟩), .agg (heldE.cells h).toArray, .int .u64 n, .func (.func 33) #[] #[.pointer (some ⟨r, 0, none⟩)]] Q s := by
  refine calls_body (hl 32 (by decide)) ?_
  rw [f32xeq, f32xS]
  have hmk : ∀ a : Addr, mkFn 72 0 #[.pointer (some a)] = some (.func (.func 72) #[] #[.pointer (some a)]) := fun a => by simp [mkFn, Value.oneCell']
  simp -implicitDefEqProofs (disch := first | omega | (simp -implicitDefEqProofs <;> omega) | fail) [wrap_i64, wrap_u64, wrap_u8, binV_shr, binV_shl, binV_rem, binV_quo, Int.fdiv_eq_ediv_of_nonneg, Int.tdiv_eq_ediv_of_nonneg, Int.tmod_eq_emod_of_nonneg, callG_body, idxAddr_arr, idxAddr_slc, St.alloc_old, St.alloc_at, St.put_other, St.alloc_put_old, St.alloc_put_new, hmk]
  generalize hS : ((s.alloc (.cells [.pointer (some ⟨tp, 0, none⟩)] false)).alloc (.cells (.int .i64 h.d :: .int .u64 h.f :: u8s h.key.1) false)).alloc (.cells (u8s (zs 32)) false) = S0
  have hn0 : S0.next = s.next + 1 + 1 + 1 := by subst hS; simp
  have g0 : S0.heap s.next = some (.cells [.pointer (some ⟨tp, 0, none⟩)] false) := by subst hS; simp -implicitDefEqProofs (disch := first | omega | (simp -implicitDefEqProofs <;> omega) | fail) [wrap_i64, wrap_u64, wrap_u8, binV_shr, binV_shl, binV_rem, binV_quo, Int.fdiv_eq_ediv_of_nonneg, Int.tdiv_eq_ediv_of_nonneg, Int.tmod_eq_emod_of_nonneg, callG_body, idxAddr_arr, idxAddr_slc, St.alloc_old, St.alloc_at, St.put_other, St.alloc_put_old, St.alloc_put_new]
  have g1 : S0.heap (s.next + 1) = some (.cells (.int .i64 h.d :: .int .u64 h.f :: u8s h.key.1) false) := by subst hS; simp -implicitDefEqProofs (disch := first | omega | (simp -implicitDefEqProofs <;> omega) | fail) [wrap_i64, wrap_u64, wrap_u8, binV_shr, binV_shl, binV_rem, binV_quo, Int.fdiv_eq_ediv_of_nonneg, Int.tdiv_eq_ediv_of_nonneg, Int.tmod_eq_emod_of_nonneg, callG_body, idxAddr_arr, idxAddr_slc, St.alloc_old, St.alloc_at, St.put_other, St.alloc_put_old, St.alloc_put_new]
  have g2 : S0.heap (s.next + 1 + 1) = some (.cells (u8s (zs 32)) false) := by subst hS; simp -implicitDefEqProofs (disch := first | omega | (simp -implicitDefEqProofs <;> omega) | fail) [wrap_i64, wrap_u64, wrap_u8, binV_shr, binV_shl, binV_rem, binV_quo, Int.fdiv_eq_ediv_of_nonneg, Int.tdiv_eq_ediv_of_nonneg, Int.tmod_eq_emod_of_nonneg, callG_body, idxAddr_arr, idxAddr_slc, St.alloc_old, St.alloc_at, St.put_other, St.alloc_put_old, St.alloc_put_new]
  have hold : ∀ b, b < s.next → S0.heap b = s.heap b := fun b hb => by subst hS; simp -implicitDefEqProofs (disch := first | omega | (simp -implicitDefEqProofs <;> omega) | fail) [wrap_i64, wrap_u64, wrap_u8, binV_shr, binV_shl, binV_rem, binV_quo, Int.fdiv_eq_ediv_of_nonneg, Int.tdiv_eq_ediv_of_nonneg, Int.tmod_eq_emod_of_nonneg, callG_body, idxAddr_arr, idxAddr_slc, St.alloc_old, St.alloc_at, St.put_other, St.alloc_put_old, St.alloc_put_new]
  clear hS
  have hρn : ∀ b, some b = ρ → b < s.next := fun b hb => by subst hb; exact ho.lt
  refine f32xloop0 fun I hI => ?_
  have key : ∀ k : Nat, ∀ (cur : Hd) (rest : List Hd) (v' : Value) (ρ' : Option Nat) (S : St), cur.d + k = 17 → cur.Ok → cur.Cov n → Aside h cur rest → s.next + 1 + 1 + 1 ≤ S.next →
      S.heap s.next = some (.cells [.pointer (some ⟨tp, 0, none⟩)] false) → S.heap (s.next + 1) = some (.cells (.int .i64 cur.d :: .int .u64 cur.f :: u8s cur.key.1) false) → S.heap (s.next + 1 + 1) = some (.cells (u8s (zs 32)) false) →
      (∀ b, b < s.next → b ≠ r → some b ≠ ρ → S.heap b = s.heap b) → S.heap r = some (.cells [v'] tl) → heldE.Own S v' ρ' rest → (ρ' = ρ ∨ ∃ b, ρ' = some b ∧ s.next + 1 + 1 + 1 ≤ b) → (Long s ρ → Long S ρ') →
      I (.int .u64 n) (.func (.func 33) #[] #[.pointer (some ⟨r, 0, none⟩)]) (.pointer (some ⟨s.next + 1, 0, none⟩)) (.pointer (some ⟨s.next + 1 + 1, 0, none⟩)) (.func (.func 72) #[] #[.pointer (some ⟨s.next, 0, none⟩)]) S := by
    intro k
    induction k with
    | zero =>
      intro cur rest v' ρ' S hk co cc ca q1 q2 q3 q4 q5 q6 q7 q8 q9
      refine hI _ _ _ _ _ _ ?_
      have hd17 : ¬ (cur.d : Int) < 17 := by omega
      simp -implicitDefEqProofs (disch := first | omega | (simp -implicitDefEqProofs <;> omega) | fail) [wrap_i64, wrap_u64, wrap_u8, binV_shr, binV_shl, binV_rem, binV_quo, Int.fdiv_eq_ediv_of_nonneg, Int.tdiv_eq_ediv_of_nonneg, Int.tmod_eq_emod_of_nonneg, callG_body, idxAddr_arr, idxAddr_slc, St.alloc_old, St.alloc_at, St.put_other, St.alloc_put_old, St.alloc_put_new, f32xB0, q3, hd17]
      rw [f32xE0x0xeq]
      simp -implicitDefEqProofs (disch := first | omega | (simp -implicitDefEqProofs <;> omega) | fail) [wrap_i64, wrap_u64, wrap_u8, binV_shr, binV_shl, binV_rem, binV_quo, Int.fdiv_eq_ediv_of_nonneg, Int.tdiv_eq_ediv_of_nonneg, Int.tmod_eq_emod_of_nonneg, callG_body, idxAddr_arr, idxAddr_slc, St.alloc_old, St.alloc_at, St.put_other, St.alloc_put_old, St.alloc_put_new, f32xE0x0, f32xJ3, q3, q4]
      have hcur : ∀ m, cur.Cov m ↔ m = n := fun m => by
        have : cur.d = 17 := by omega
        simp only [Hd.Cov, this] at cc ⊢
        simp at cc ⊢
        omega
      have hrρ' : some r ≠ ρ' := by
        rcases q8 with h | ⟨b, h, hb⟩
        · rw [h]; exact hrρ
        · rw [h]; intro e; cases e; omega
      have hne2 : some (s.next + 1 + 1) ≠ ρ' := fun e => by
        rcases q8 with h | ⟨b, h, hb⟩
        · have := hρn _ (e.trans h); omega
        · rw [← e] at h; cases h; omega
      refine kEnd_keep (hq v' _ ρ' rest _ ?_ ?_ hrρ' (by simp; omega) ?_ (fun b hb hbr hbρ => ?_) (fun hL b hb => ?_) (by have := ca.len; omega) ca.ok (fun m => by rw [ca.cov m, hcur m]) ca.disj)
      · rw [St.put_other (by omega)]; exact q6
      · exact q7.same (by simp) (fun b hb => St.put_other (fun e => hne2 (by rw [← e, hb])))
      · rcases q8 with h | ⟨b, h, hb⟩
        · exact .inl h
        · exact .inr ⟨b, h, by omega⟩
      · rw [St.put_other (by omega), q5 b hb hbr hbρ]
      · rw [St.put_other (fun e => hne2 (by rw [← e, hb]))]
        exact q9 hL b hb
    | succ k ih =>
      intro cur rest v' ρ' S hk co cc ca q1 q2 q3 q4 q5 q6 q7 q8 q9
      refine hI _ _ _ _ _ _ ?_
      have hd17 : (cur.d : Int) < 17 := by omega
      have hd17' : cur.d < 17 := by omega
      have hcf := co.f
      have hpp : 0 < 2 ^ (17 - cur.d) := Nat.pow_pos (by decide)
      simp -implicitDefEqProofs (disch := first | omega | (simp -implicitDefEqProofs <;> omega) | fail) [wrap_i64, wrap_u64, wrap_u8, binV_shr, binV_shl, binV_rem, binV_quo, Int.fdiv_eq_ediv_of_nonneg, Int.tdiv_eq_ediv_of_nonneg, Int.tmod_eq_emod_of_nonneg, callG_body, idxAddr_arr, idxAddr_slc, St.alloc_old, St.alloc_at, St.put_other, St.alloc_put_old, St.alloc_put_new, f32xB0, q3, hd17, f32xJ2]
      have hρ' : ∀ b, some b = ρ' → b < S.next ∧ (b < s.next ∨ s.next + 1 + 1 + 1 ≤ b) := fun b hb => by
        subst hb
        refine ⟨q7.lt, ?_⟩
        rcases q8 with h | ⟨b1, h, hb⟩
        · left; exact hρn _ h
        · right; cases h; exact hb
      have hrρ' : some r ≠ ρ' := by
        rcases q8 with h | ⟨b, h, hb⟩
        · rw [h]; exact hrρ
        · rw [h]; intro e; cases e; omega
      have j1 : ∀ (nx sd : Hd) (cn cs : List Value), heldE.cells nx = cn → heldE.cells sd = cs → nx.d = cur.d + 1 → nx.Ok → nx.Cov n → sd.Ok → (∀ m, cur.Cov m ↔ nx.Cov m ∨ sd.Cov m) → (∀ m, ¬ (nx.Cov m ∧ sd.Cov m)) →
          f32xJ1 (CC laid) (f32xK5 (CC laid) Q s) I (.int .u64 n) (.func (.func 33) #[] #[.pointer (some ⟨r, 0, none⟩)]) (.pointer (some ⟨s.next + 1, 0, none⟩)) (.pointer (some ⟨s.next + 1 + 1, 0, none⟩)) (.func (.func 72) #[] #[.pointer (some ⟨s.next, 0, none⟩)])
            (.pointer (some ⟨S.next, 0, none⟩)) (.pointer (some ⟨S.next + 1, 0, none⟩)) ((S.alloc (.cells cn false)).alloc (.cells cs false)) := by
        intro nx sd cn cs hcn hcs hnd hno hnc hso hc1 hc2
        subst hcn; subst hcs
        generalize hT : (S.alloc (.cells (heldE.cells nx) false)).alloc (.cells (heldE.cells sd) false) = T
        have hTn : T.next = S.next + 1 + 1 := by subst hT; simp
        have u1 : T.heap S.next = some (.cells (heldE.cells nx) false) := by subst hT; simp -implicitDefEqProofs (disch := first | omega | (simp -implicitDefEqProofs <;> omega) | fail) [wrap_i64, wrap_u64, wrap_u8, binV_shr, binV_shl, binV_rem, binV_quo, Int.fdiv_eq_ediv_of_nonneg, Int.tdiv_eq_ediv_of_nonneg, Int.tmod_eq_emod_of_nonneg, callG_body, idxAddr_arr, idxAddr_slc, St.alloc_old, St.alloc_at, St.put_other, St.alloc_put_old, St.alloc_put_new]
        have u2 : T.heap (S.next + 1) = some (.cells (heldE.cells sd) false) := by subst hT; simp -implicitDefEqProofs (disch := first | omega | (simp -implicitDefEqProofs <;> omega) | fail) [wrap_i64, wrap_u64, wrap_u8, binV_shr, binV_shl, binV_rem, binV_quo, Int.fdiv_eq_ediv_of_nonneg, Int.tdiv_eq_ediv_of_nonneg, Int.tmod_eq_emod_of_nonneg, callG_body, idxAddr_arr, idxAddr_slc, St.alloc_old, St.alloc_at, St.put_other, St.alloc_put_old, St.alloc_put_new]
        have u3 : ∀ b, b < S.next → T.heap b = S.heap b := fun b hb => by subst hT; simp -implicitDefEqProofs (disch := first | omega | (simp -implicitDefEqProofs <;> omega) | fail) [wrap_i64, wrap_u64, wrap_u8, binV_shr, binV_shl, binV_rem, binV_quo, Int.fdiv_eq_ediv_of_nonneg, Int.tdiv_eq_ediv_of_nonneg, Int.tmod_eq_emod_of_nonneg, callG_body, idxAddr_arr, idxAddr_slc, St.alloc_old, St.alloc_at, St.put_other, St.alloc_put_old, St.alloc_put_new]
        clear hT
        simp -implicitDefEqProofs (disch := first | omega | (simp -implicitDefEqProofs <;> omega) | fail) [wrap_i64, wrap_u64, wrap_u8, binV_shr, binV_shl, binV_rem, binV_quo, Int.fdiv_eq_ediv_of_nonneg, Int.tdiv_eq_ediv_of_nonneg, Int.tmod_eq_emod_of_nonneg, callG_body, idxAddr_arr, idxAddr_slc, St.alloc_old, St.alloc_at, St.put_other, St.alloc_put_old, St.alloc_put_new, f32xJ1, u2]
        refine punc1xspec hl (x := sd) (xs := rest) ((u3 r (by omega)).trans q6) (by omega) (q7.same (by omega) (fun b hb => u3 b (hρ' b hb.symm).1)) hrρ' (by have := ca.len; omega) fun v2 s' ρ2 w1 w2 w3 w4 w5 w6 w7 => ?_
        have hk0 : ∀ b, s.next ≤ b → b < s.next + 1 + 1 + 1 → s'.heap b = S.heap b := fun b h1 h2 => by
          rw [w6 b (by omega) (by omega) (fun e => by have := hρ' b e; omega), u3 b (by omega)]
        have e1 : s'.heap S.next = some (.cells (heldE.cells nx) false) := (w6 _ (by omega) (by omega) (fun e => by have := hρ' _ e; omega)).trans u1
        have hρ2 : ∀ b, some b = ρ2 → b < s.next ∨ s.next + 1 + 1 + 1 ≤ b := fun b hb => by
          rcases w5 with h | ⟨b1, h, hb1⟩
          · exact (hρ' b (hb.trans h)).2
          · rw [← hb] at h; cases h; omega
        simp -implicitDefEqProofs (disch := first | omega | (simp -implicitDefEqProofs <;> omega) | fail) [wrap_i64, wrap_u64, wrap_u8, binV_shr, binV_shl, binV_rem, binV_quo, Int.fdiv_eq_ediv_of_nonneg, Int.tdiv_eq_ediv_of_nonneg, Int.tmod_eq_emod_of_nonneg, callG_body, idxAddr_arr, idxAddr_slc, St.alloc_old, St.alloc_at, St.put_other, St.alloc_put_old, St.alloc_put_new, e1, hk0, q3]
        have hne1 : ∀ b, ρ2 = some b → b ≠ s.next + 1 := fun b hb => by have := hρ2 b hb.symm; omega
        refine ih nx (rest ++ [sd]) v2 ρ2 _ (by omega) hno hnc (ca.step hd17' hnd hso hc1 hc2) (by simp; omega) ?_ St.put_self ?_ (fun b hb hbr hbρ => ?_) ?_ (w2.same (by simp) (fun b hb => St.put_other (hne1 b hb))) ?_ (fun hL b hb => ?_)
        · rw [St.put_other (by omega), hk0 _ (by omega) (by omega)]; exact q2
        · rw [St.put_other (by omega), hk0 _ (by omega) (by omega)]; exact q4
        · rw [St.put_other (by omega), w6 b (by omega) hbr ?_, u3 b (by omega), q5 b hb hbr hbρ]
          intro e
          rcases q8 with h | ⟨b1, h, hb1⟩
          · exact hbρ (e.trans h)
          · rw [← e] at h; cases h; omega
        · rw [St.put_other (by omega)]; exact w1
        · rcases w5 with h | ⟨b1, h, hb1⟩
          · rw [h]; exact q8
          · exact .inr ⟨b1, h, by omega⟩
        · rw [St.put_other (hne1 b hb)]
          refine w7 (fun b hb => ?_) b hb
          rw [u3 b (hρ' b hb.symm).1]
          exact q9 hL b hb
      have hco := fun xs ys => half_cov hd17' (xs := xs) (ys := ys)
      have hlo := fun xs => left_ok co hd17' (xs := xs)
      have hro := fun ys => right_ok co hd17' (ys := ys)
      refine downsplit_spec hl (by omega) (by omega) (by omega) (by omega) (r := s.next) (tb := tp) (by omega) (by omega) q2 ((q5 tp htn htr htρ).trans ht) fun xs ys => ?_
      have hrc : heldE.cells (cur.right ys) = .int .i64 (cur.d + 1 : Nat) :: .int .u64 ((cur.f : Int) + ((2 ^ (16 - (cur.d : Int).toNat) : Nat) : Int)) :: u8s ys.1 := by simp [Hd.right]
      have hlc : heldE.cells (cur.left xs) = .int .i64 (cur.d + 1 : Nat) :: .int .u64 cur.f :: u8s xs.1 := by simp [Hd.left]
      have hge := (hco xs ys n).2.2
      have hf : ((cur.right ys).f : Int) = (cur.f : Int) + ((2 ^ (16 - (cur.d : Int).toNat) : Nat) : Int) := by simp [Hd.right]
      generalize ((2 ^ (16 - (cur.d : Int).toNat) : Nat) : Int) = q at *
      simp -implicitDefEqProofs (disch := first | omega | (simp -implicitDefEqProofs <;> omega) | fail) [wrap_i64, wrap_u64, wrap_u8, binV_shr, binV_shl, binV_rem, binV_quo, Int.fdiv_eq_ediv_of_nonneg, Int.tdiv_eq_ediv_of_nonneg, Int.tmod_eq_emod_of_nonneg, callG_body, idxAddr_arr, idxAddr_slc, St.alloc_old, St.alloc_at, St.put_other, St.alloc_put_old, St.alloc_put_new]
      split
      · rename_i hc
        refine j1 (cur.right ys) (cur.left xs) _ _ hrc hlc rfl (hro ys) ((hge.2 ⟨cc, by omega⟩)) (hlo xs) (fun m => by rw [(hco xs ys m).1]; exact Or.comm) (fun m hm => (hco xs ys m).2.1 hm.symm)
      · rename_i hc
        refine j1 (cur.left xs) (cur.right ys) _ _ hlc hrc rfl (hlo xs) ?_ (hro ys) (fun m => (hco xs ys m).1) (fun m => (hco xs ys m).2.1)
        exact ((hco xs ys n).1.1 cc).resolve_right (fun h => hc (by have := (hge.1 h).2; omega))
  exact key (17 - h.d) h [] v ρ S0 (by have := hok.d; omega) hok hcov ⟨by simp, by simp, fun m => by simp, fun m hm => hm, .nil⟩ (by omega) g0 g1 g2 (fun b hb _ _ => hold b hb) ((hold r hrn).trans hr) (ho.same (by omega) (fun b hb => hold b (hρn b hb.symm))) (.inl rfl)
    (fun hL b hb => by rw [hold b (hρn b hb.symm)]; exact hL b hb)

end Go.Zz
