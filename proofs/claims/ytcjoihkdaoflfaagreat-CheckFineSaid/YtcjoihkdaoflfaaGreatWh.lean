/- Which entry has a number. -/
import Derived.Test.YtcjoihkdaoflfaaGreatWg
set_option linter.all false
set_option maxRecDepth 20000
namespace Go.Zz
open Go

variable {laid : Laid}

instance : Inhabited Hd := ⟨⟨0, 0, ⟨zs 32, by simp⟩⟩⟩
/-- The entries rise, and none has a number of another. -/
structure Law (hs : List Hd) : Prop where
  ok : ∀ x ∈ hs, x.Ok
  sorted : hs.Pairwise fun x y => x.f + 2 ^ (17 - x.d) ≤ y.f
def Cov (hs : List Hd) (m : Nat) : Prop := ∃ x ∈ hs, x.Cov m
theorem Law.at {hs : List Hd} (h : Law hs) {i j : Nat} (hj : j < hs.length) (hij : i < j) : hs[i].f + 2 ^ (17 - hs[i].d) ≤ hs[j].f :=
  List.pairwise_iff_getElem.1 h.sorted i j (by omega) hj hij
theorem Law.len {hs : List Hd} (h : Law hs) : hs.length ≤ 131072 := by
  have key : ∀ n, n < hs.length → n ≤ (hs[n]!).f := by
    intro n
    induction n with
    | zero => intro _; omega
    | succ n ih =>
      intro hn
      have h1 := h.at hn (Nat.lt_succ_self n)
      have h2 := ih (by omega)
      have h3 : 0 < 2 ^ (17 - hs[n].d) := Nat.pow_pos (by decide)
      rw [getElem!_pos hs n (by omega)] at h2
      rw [getElem!_pos hs (n + 1) hn]
      omega
  by_cases h0 : hs.length = 0
  · omega
  · have h1 := key (hs.length - 1) (by omega)
    rw [getElem!_pos hs _ (by omega)] at h1
    have h2 := (h.ok _ (List.getElem_mem (show hs.length - 1 < hs.length by omega))).f
    have h3 : 0 < 2 ^ (17 - hs[hs.length - 1].d) := Nat.pow_pos (by decide)
    omega
theorem Law.cut {hs : List Hd} (h : Law hs) (n : Nat) : ∃ k, k ≤ hs.length ∧ (∀ i (hi : i < hs.length), i < k → hs[i].f < n) ∧ (∀ i (hi : i < hs.length), k ≤ i → n ≤ hs[i].f) := by
  obtain ⟨ok, hp⟩ := h
  clear ok
  induction hs with
  | nil => exact ⟨0, by simp, by simp, by simp⟩
  | cons x t ih =>
    rw [List.pairwise_cons] at hp
    obtain ⟨k, h1, h2, h3⟩ := ih hp.2
    by_cases hx : x.f < n
    · refine ⟨k + 1, by simp; omega, fun i hi hk => ?_, fun i hi hk => ?_⟩
      · cases i with
        | zero => exact hx
        | succ i => exact h2 i (by simpa using hi) (by omega)
      · cases i with
        | zero => omega
        | succ i => exact h3 i (by simpa using hi) (by omega)
    · refine ⟨0, by omega, fun i hi hk => by omega, fun i hi hk => ?_⟩
      cases i with
      | zero => simpa using hx
      | succ i =>
        have := Nat.le_trans (Nat.le_add_right x.f _) (hp.1 _ (List.getElem_mem (show i < t.length by simpa using hi)))
        simp only [List.getElem_cons_succ]
        omega

def fAt (hs : List Hd) (i : Nat) : Nat := if h : i < hs.length then hs[i].f else 0
theorem fAt_eq {hs : List Hd} {i : Nat} (h : i < hs.length) : fAt hs i = hs[i].f := by simp [fAt, h]
/-- The tree at tp holds the entries hs. -/
structure TreeR (s : St) (tp : Nat) (ρ : Option Nat) (hs : List Hd) : Prop where
  heap : ∃ cv v tl, s.heap tp = some (.cells [.iface 40 (.agg (List.toArray cv)), v] tl) ∧ heldE.Own s v ρ hs
  ne : some tp ≠ ρ
  lt : tp < s.next
  law : Law hs

theorem find_spec (hl : Bare laid) {tp : Nat} {ρ : Option Nat} {hs : List Hd} {n : Nat} (hn : n < 18446744073709551616) {Q : Post} {s : St} (ht : TreeR s tp ρ hs)
    (h1 : ∀ i (hi : i < hs.length), hs[i].Cov n → Q (.tuple #[.int .i64 i, .bool true]) s) (h0 : ¬ Cov hs n → Q (.tuple #[.int .i64 0, .bool false]) s) :
    CC laid 31 [.pointer (some ⟨tp, 0, none⟩), .int .u64 n] Q s := by
  refine calls_body (hl 31 (by decide)) ?_
  rw [f31xeq, f31xS]
  obtain ⟨⟨cv, v, tl, hb, ho⟩, _, _, law⟩ := ht
  have hlen := law.len
  have hpn : binV P .eql 35 (.pointer (some ⟨tp, 0, none⟩)) (.pointer none) = some (.bool false) := by simp [binV, eqOp]
  simp -implicitDefEqProofs (disch := first | omega | (simp -implicitDefEqProofs <;> omega) | fail) [wrap_i64, wrap_u64, wrap_u8, binV_shr, binV_shl, binV_rem, binV_quo, Int.fdiv_eq_ediv_of_nonneg, Int.tdiv_eq_ediv_of_nonneg, Int.tmod_eq_emod_of_nonneg, callG_body, idxAddr_arr, idxAddr_slc, St.alloc_old, St.alloc_at, St.put_other, St.alloc_put_old, St.alloc_put_new, hpn]
  refine many_spec hl (by omega) (by omega) ?_
  simp -implicitDefEqProofs (disch := first | omega | (simp -implicitDefEqProofs <;> omega) | fail) [wrap_i64, wrap_u64, wrap_u8, binV_shr, binV_shl, binV_rem, binV_quo, Int.fdiv_eq_ediv_of_nonneg, Int.tdiv_eq_ediv_of_nonneg, Int.tmod_eq_emod_of_nonneg, callG_body, idxAddr_arr, idxAddr_slc, St.alloc_old, St.alloc_at, St.put_other, St.alloc_put_old, St.alloc_put_new]
  by_cases hbig : 131072 ≤ n
  · have hbig' : (131072 : Int) ≤ n := by omega
    simp -implicitDefEqProofs (disch := first | omega | (simp -implicitDefEqProofs <;> omega) | fail) [wrap_i64, wrap_u64, wrap_u8, binV_shr, binV_shl, binV_rem, binV_quo, Int.fdiv_eq_ediv_of_nonneg, Int.tdiv_eq_ediv_of_nonneg, Int.tmod_eq_emod_of_nonneg, callG_body, idxAddr_arr, idxAddr_slc, St.alloc_old, St.alloc_at, St.put_other, St.alloc_put_old, St.alloc_put_new, hbig']
    refine h0 ?_
    rintro ⟨x, hx, hm⟩
    have := (law.ok x hx).f
    have := hm.2
    omega
  have hbig' : ¬ (131072 : Int) ≤ n := by omega
  simp -implicitDefEqProofs (disch := first | omega | (simp -implicitDefEqProofs <;> omega) | fail) [wrap_i64, wrap_u64, wrap_u8, binV_shr, binV_shl, binV_rem, binV_quo, Int.fdiv_eq_ediv_of_nonneg, Int.tdiv_eq_ediv_of_nonneg, Int.tmod_eq_emod_of_nonneg, callG_body, idxAddr_arr, idxAddr_slc, St.alloc_old, St.alloc_at, St.put_other, St.alloc_put_old, St.alloc_put_new, hbig', f31xJ3, hb]
  obtain ⟨k, hk, hlo, hhi⟩ := law.cut n
  refine BinHeld_spec hl (c := fun i => cmp3 (fAt hs i : Nat) n) (k := k) ho.sl (by omega) (fun i hi Q hQ => ?_) hk (fun i hi => ?_) (fun i hi hi2 => ?_) ?_
  · simp -implicitDefEqProofs (disch := first | omega | (simp -implicitDefEqProofs <;> omega) | fail) [wrap_i64, wrap_u64, wrap_u8, binV_shr, binV_shl, binV_rem, binV_quo, Int.fdiv_eq_ediv_of_nonneg, Int.tdiv_eq_ediv_of_nonneg, Int.tmod_eq_emod_of_nonneg, callG_body, idxAddr_arr, idxAddr_slc, St.alloc_old, St.alloc_at, St.put_other, St.alloc_put_old, St.alloc_put_new]
    refine findcmp_spec hl ?_
    rw [fAt_eq hi] at hQ
    exact hQ
  · have := hlo i (by omega) hi
    have h2 : i < hs.length := by omega
    simp only [cmp3, fAt_eq h2]
    split <;> (try split) <;> omega
  · have := hhi i (by omega) hi
    simp only [cmp3, fAt_eq hi2]
    split <;> (try split) <;> omega
  by_cases hfk : k < hs.length ∧ fAt hs k = n
  · obtain ⟨hk1, hk2⟩ := hfk
    have hk3 : hs[k].f = n := (fAt_eq hk1).symm.trans hk2
    have hpp : 0 < 2 ^ (17 - hs[k].d) := Nat.pow_pos (by decide)
    have hc := h1 k hk1 ⟨by omega, by omega⟩
    simp -implicitDefEqProofs (disch := first | omega | (simp -implicitDefEqProofs <;> omega) | fail) [wrap_i64, wrap_u64, wrap_u8, binV_shr, binV_shl, binV_rem, binV_quo, Int.fdiv_eq_ediv_of_nonneg, Int.tdiv_eq_ediv_of_nonneg, Int.tmod_eq_emod_of_nonneg, callG_body, idxAddr_arr, idxAddr_slc, St.alloc_old, St.alloc_at, St.put_other, St.alloc_put_old, St.alloc_put_new, hk1, hk2, cmp3]
    exact hc
  · have hnk : (decide (k < hs.length) && decide (cmp3 (fAt hs k : Nat) n = 0)) = false := by
      by_cases hkl : k < hs.length
      · have : ¬ fAt hs k = n := fun e => hfk ⟨hkl, e⟩
        simp only [hkl, cmp3]
        generalize fAt hs k = q at *
        simp
        split
        · simp
        · split
          · simp
          · omega
      · simp [hkl]
    rw [hnk]
    simp -implicitDefEqProofs (disch := first | omega | (simp -implicitDefEqProofs <;> omega) | fail) [wrap_i64, wrap_u64, wrap_u8, binV_shr, binV_shl, binV_rem, binV_quo, Int.fdiv_eq_ediv_of_nonneg, Int.tdiv_eq_ediv_of_nonneg, Int.tmod_eq_emod_of_nonneg, callG_body, idxAddr_arr, idxAddr_slc, St.alloc_old, St.alloc_at, St.put_other, St.alloc_put_old, St.alloc_put_new, f31xJ2]
    by_cases hk0 : k = 0
    · subst hk0
      simp -implicitDefEqProofs (disch := first | omega | (simp -implicitDefEqProofs <;> omega) | fail) [wrap_i64, wrap_u64, wrap_u8, binV_shr, binV_shl, binV_rem, binV_quo, Int.fdiv_eq_ediv_of_nonneg, Int.tdiv_eq_ediv_of_nonneg, Int.tmod_eq_emod_of_nonneg, callG_body, idxAddr_arr, idxAddr_slc, St.alloc_old, St.alloc_at, St.put_other, St.alloc_put_old, St.alloc_put_new]
      refine h0 ?_
      rintro ⟨x, hx, hm⟩
      obtain ⟨i, hi, rfl⟩ := List.getElem_of_mem hx
      have h2 := hhi i hi (Nat.zero_le _)
      have h3 := hm.1
      have h4 : hs[i].f = n := by omega
      by_cases hi0 : i = 0
      · subst hi0
        exact hfk ⟨hi, (fAt_eq hi).trans h4⟩
      · have h5 := law.at hi (show 0 < i by omega)
        have h6 := hhi 0 (by omega) (Nat.le_refl _)
        have h7 : 0 < 2 ^ (17 - hs[0].d) := Nat.pow_pos (by decide)
        omega
    · have hkl : k - 1 < hs.length := by omega
      obtain ⟨b, o, cc, rfl, hA⟩ := ho.sl.ne (by intro e; simp [e] at hkl)
      have hki : ¬ (k : Int) = 0 := by omega
      have hk1 : (k : Int) - 1 = ((k - 1 : Nat) : Int) := by omega
      have hlt := hlo (k - 1) hkl (by omega)
      have hok := law.ok _ (List.getElem_mem hkl)
      have hd := hok.d
      generalize k - 1 = m at *
      simp -implicitDefEqProofs (disch := first | omega | (simp -implicitDefEqProofs <;> omega) | fail) [wrap_i64, wrap_u64, wrap_u8, binV_shr, binV_shl, binV_rem, binV_quo, Int.fdiv_eq_ediv_of_nonneg, Int.tdiv_eq_ediv_of_nonneg, Int.tmod_eq_emod_of_nonneg, callG_body, idxAddr_arr, idxAddr_slc, St.alloc_old, St.alloc_at, St.put_other, St.alloc_put_old, St.alloc_put_new, hk0, hb, hk1, hA.fld hkl (k := 1), hA.fld0 hkl]
      refine many_spec hl (by omega) (by omega) ?_
      have hf := hA.fld (n := 1) hkl (k := 1) (by decide)
      have hcv : hs[m].Cov n ↔ ¬ ((2 ^ (17 - ((hs[m].d : Nat) : Int).toNat) : Nat) : Int) ≤ n - hs[m].f := by
        simp only [Hd.Cov, Int.toNat_natCast]
        generalize 2 ^ (17 - hs[m].d) = q at *
        omega
      generalize ((2 ^ (17 - ((hs[m].d : Nat) : Int).toNat) : Nat) : Int) = q at *
      by_cases hq : q ≤ (n : Int) - hs[m].f
      · simp -implicitDefEqProofs (disch := first | omega | (simp -implicitDefEqProofs <;> omega) | fail) [wrap_i64, wrap_u64, wrap_u8, binV_shr, binV_shl, binV_rem, binV_quo, Int.fdiv_eq_ediv_of_nonneg, Int.tdiv_eq_ediv_of_nonneg, Int.tmod_eq_emod_of_nonneg, callG_body, idxAddr_arr, idxAddr_slc, St.alloc_old, St.alloc_at, St.put_other, St.alloc_put_old, St.alloc_put_new, hk0, hb, hf, hq]
        refine h0 ?_
        rintro ⟨x, hx, hm⟩
        obtain ⟨i, hi, rfl⟩ := List.getElem_of_mem hx
        have hni : i ≠ m := fun e => by subst e; exact hcv.1 hm hq
        by_cases him : i < m
        · have h5 := law.at hkl him
          have h6 := hm.2
          omega
        · have h6 := hhi i hi (by omega)
          have h7 := hm.1
          have h8 : hs[i].f = n := by omega
          by_cases hik : i = k
          · subst hik
            exact hfk ⟨hi, (fAt_eq hi).trans h8⟩
          · have h9 := law.at hi (show k < i by omega)
            have h10 := hhi k (by omega) (Nat.le_refl _)
            have h11 : 0 < 2 ^ (17 - hs[k].d) := Nat.pow_pos (by decide)
            omega
      · simp -implicitDefEqProofs (disch := first | omega | (simp -implicitDefEqProofs <;> omega) | fail) [wrap_i64, wrap_u64, wrap_u8, binV_shr, binV_shl, binV_rem, binV_quo, Int.fdiv_eq_ediv_of_nonneg, Int.tdiv_eq_ediv_of_nonneg, Int.tmod_eq_emod_of_nonneg, callG_body, idxAddr_arr, idxAddr_slc, St.alloc_old, St.alloc_at, St.put_other, St.alloc_put_old, St.alloc_put_new, hk0, hb, hf, hq, f31xJ1, hk1]
        exact h1 m hkl (hcv.2 hq)

theorem Has_spec (hl : Bare laid) {tp : Nat} {ρ : Option Nat} {hs : List Hd} {n : Nat} (hn : n < 18446744073709551616) {Q : Post} {s : St} (ht : TreeR s tp ρ hs)
    (h1 : Cov hs n → Q (.bool true) s) (h0 : ¬ Cov hs n → Q (.bool false) s) : CC laid 39 [.pointer (some ⟨tp, 0, none⟩), .int .u64 n] Q s := by
  refine calls_body (hl 39 (by decide)) ?_
  rw [f39xeq, f39xS]
  simp -implicitDefEqProofs (disch := first | omega | (simp -implicitDefEqProofs <;> omega) | fail) [wrap_i64, wrap_u64, wrap_u8, binV_shr, binV_shl, binV_rem, binV_quo, Int.fdiv_eq_ediv_of_nonneg, Int.tdiv_eq_ediv_of_nonneg, Int.tmod_eq_emod_of_nonneg, callG_body, idxAddr_arr, idxAddr_slc, St.alloc_old, St.alloc_at, St.put_other, St.alloc_put_old, St.alloc_put_new]
  refine find_spec hl hn ht (fun i hi hc => ?_) (fun hc => ?_)
  · simp -implicitDefEqProofs (disch := first | omega | (simp -implicitDefEqProofs <;> omega) | fail) [wrap_i64, wrap_u64, wrap_u8, binV_shr, binV_shl, binV_rem, binV_quo, Int.fdiv_eq_ediv_of_nonneg, Int.tdiv_eq_ediv_of_nonneg, Int.tmod_eq_emod_of_nonneg, callG_body, idxAddr_arr, idxAddr_slc, St.alloc_old, St.alloc_at, St.put_other, St.alloc_put_old, St.alloc_put_new]
    exact h1 ⟨_, List.getElem_mem hi, hc⟩
  · simp -implicitDefEqProofs (disch := first | omega | (simp -implicitDefEqProofs <;> omega) | fail) [wrap_i64, wrap_u64, wrap_u8, binV_shr, binV_shl, binV_rem, binV_quo, Int.fdiv_eq_ediv_of_nonneg, Int.tdiv_eq_ediv_of_nonneg, Int.tmod_eq_emod_of_nonneg, callG_body, idxAddr_arr, idxAddr_slc, St.alloc_old, St.alloc_at, St.put_other, St.alloc_put_old, St.alloc_put_new]
    exact h0 hc

end Go.Zz
