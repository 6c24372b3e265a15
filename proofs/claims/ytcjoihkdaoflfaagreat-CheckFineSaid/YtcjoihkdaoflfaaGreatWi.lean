/- A number is taken out of the tree. -/
import Derived.Test.YtcjoihkdaoflfaaGreatWh
set_option linter.all false
set_option maxRecDepth 20000
namespace Go.Zz
open Go

/-- What is said of slices.SortFunc, at the tree's entries and 'by their first numbers'. -/
inductive SortX : List Value → Post → St → Prop
  | nil {Q : Post} {s : St} : Q (.tuple #[]) s → SortX [.slice none 0 0, fv 35] Q s
  | row {Q : Post} {s : St} {b c : Nat} {xs : List Hd} {post : List Value} {tl : Bool} : s.heap b = some (.cells (heldE.row xs ++ post) tl) → b < s.next → xs.length < 1000000 → xs.length ≤ c →
      (∀ ys : List Hd, ys.Perm xs → ys.Pairwise (fun x y => x.f ≤ y.f) → Q (.tuple #[]) (s.put b (.cells (heldE.row ys ++ post) tl))) → SortX [.slice (some ⟨b, 0, none⟩) xs.length c, fv 35] Q s
def laidS : Laid := fun f => if f = 34 then some SortX else none
theorem laidS_bare : Bare laidS := fun f h => by simp [laidS, h]

theorem law_put {hs ys : List Hd} {i n : Nat} (law : Law hs) (hi : i < hs.length) (hok : ∀ x ∈ ys, x.Ok) (hcov : ∀ m, Cov ys m ↔ hs[i].Cov m ∧ m ≠ n) (hd : ys.Pairwise Disj) (hs' : ys.Pairwise fun x y => x.f ≤ y.f) :
    Law (hs.take i ++ (ys ++ hs.drop (i + 1))) ∧ (∀ m, Cov (hs.take i ++ (ys ++ hs.drop (i + 1))) m ↔ Cov (hs.take i) m ∨ (hs[i].Cov m ∧ m ≠ n) ∨ Cov (hs.drop (i + 1)) m) := by
  have hpos : ∀ x : Hd, 0 < 2 ^ (17 - x.d) := fun x => Nat.pow_pos (by decide)
  have hself : ∀ x : Hd, x.Cov x.f := fun x => ⟨Nat.le_refl _, by have := hpos x; omega⟩
  have hin : ∀ x ∈ ys, hs[i].f ≤ x.f ∧ x.f + 2 ^ (17 - x.d) ≤ hs[i].f + 2 ^ (17 - hs[i].d) := fun x hx => by
    have h1 := ((hcov x.f).1 ⟨x, hx, hself x⟩).1.1
    have h2 := ((hcov (x.f + 2 ^ (17 - x.d) - 1)).1 ⟨x, hx, by have := hpos x; constructor <;> omega⟩).1.2
    have := hpos x
    omega
  have hsp : hs = hs.take i ++ (hs[i] :: hs.drop (i + 1)) := by rw [← List.drop_eq_getElem_cons hi, List.take_append_drop]
  have hsrt := law.sorted
  rw [hsp, List.pairwise_append, List.pairwise_cons] at hsrt
  obtain ⟨s1, ⟨s2, s3⟩, s4⟩ := hsrt
  constructor
  · constructor
    · intro x hx
      rcases List.mem_append.1 hx with hx | hx
      · exact law.ok _ (List.mem_of_mem_take hx)
      · rcases List.mem_append.1 hx with hx | hx
        · exact hok x hx
        · exact law.ok _ (List.mem_of_mem_drop hx)
    · rw [List.pairwise_append, List.pairwise_append]
      refine ⟨s1, ⟨?_, s3, fun x hx y hy => ?_⟩, fun x hx y hy => ?_⟩
      · refine (hd.and hs').imp ?_
        rintro x y ⟨h1, h2⟩
        refine Nat.not_lt.1 fun h3 => h1 y.f ⟨⟨h2, h3⟩, hself y⟩
      · have h1 := (hin x hx).2
        have h2 := s2 y hy
        omega
      · rcases List.mem_append.1 hy with hy | hy
        · have h1 := (hin y hy).1
          have h2 := s4 x hx hs[i] List.mem_cons_self
          omega
        · exact s4 x hx y (List.mem_cons_of_mem _ hy)
  · intro m
    simp only [Cov, List.mem_append]
    constructor
    · rintro ⟨x, hx | hx | hx, hm⟩
      · exact .inl ⟨x, hx, hm⟩
      · exact .inr (.inl ((hcov m).1 ⟨x, hx, hm⟩))
      · exact .inr (.inr ⟨x, hx, hm⟩)
    · rintro (⟨x, hx, hm⟩ | h | ⟨x, hx, hm⟩)
      · exact ⟨x, .inl hx, hm⟩
      · obtain ⟨x, hx, hm⟩ := (hcov m).2 h
        exact ⟨x, .inr (.inl hx), hm⟩
      · exact ⟨x, .inr (.inr hx), hm⟩
theorem cov_split {hs : List Hd} {i : Nat} (hi : i < hs.length) (m : Nat) : Cov hs m ↔ Cov (hs.take i) m ∨ hs[i].Cov m ∨ Cov (hs.drop (i + 1)) m := by
  have hsp : hs = hs.take i ++ (hs[i] :: hs.drop (i + 1)) := by rw [← List.drop_eq_getElem_cons hi, List.take_append_drop]
  conv => lhs; rw [hsp]
  simp only [Cov, List.mem_append, List.mem_cons]
  constructor
  · rintro ⟨x, hx | rfl | hx, hm⟩
    · exact .inl ⟨x, hx, hm⟩
    · exact .inr (.inl hm)
    · exact .inr (.inr ⟨x, hx, hm⟩)
  · rintro (⟨x, hx, hm⟩ | h | ⟨x, hx, hm⟩)
    · exact ⟨x, .inl hx, hm⟩
    · exact ⟨_, .inr (.inl rfl), h⟩
    · exact ⟨x, .inr (.inr hx), hm⟩
theorem law_apart {hs : List Hd} {i n : Nat} (law : Law hs) (hi : i < hs.length) (hn : hs[i].Cov n) : ¬ Cov (hs.take i) n ∧ ¬ Cov (hs.drop (i + 1)) n := by
  constructor
  · rintro ⟨x, hx, hm⟩
    obtain ⟨j, hj, rfl⟩ := List.getElem_of_mem hx
    have hj' : j < i := by simp at hj; omega
    have h1 := law.at hi hj'
    rw [List.getElem_take] at hm
    have h2 := hm.2
    have h3 := hn.1
    omega
  · rintro ⟨x, hx, hm⟩
    obtain ⟨j, hj, rfl⟩ := List.getElem_of_mem hx
    have hj' : i + 1 + j < hs.length := by simp at hj; omega
    have h1 := law.at (i := i) hj' (by omega)
    rw [List.getElem_drop] at hm
    have h2 := hm.1
    have h3 := hn.2
    omega

theorem sort_call {v : Value} {ρ : Option Nat} {xs : List Hd} {Q : Post} {s : St} (ho : heldE.Own s v ρ xs) (hlen : xs.length < 1000000)
    (hq : ∀ s' ys, ys.Perm xs → ys.Pairwise (fun x y => x.f ≤ y.f) → heldE.Own s' v ρ ys → s'.next = s.next → (∀ b, some b ≠ ρ → s'.heap b = s.heap b) → (Long s ρ → Long s' ρ) → Q (.tuple #[]) s') : CC laidS 34 [v, fv 35] Q s := by
  refine calls_laid (X := SortX) (by simp [laidS]) ?_
  have htop : top = 18446744073709551616 := rfl
  cases ho with
  | nil => exact .nil (hq s [] (.refl _) .nil .nil rfl (fun _ _ => rfl) id)
  | row hlt hb hc =>
    rename_i b c post tl
    refine .row hb hlt hlen (by rcases hc with h | h <;> omega) fun ys hp hs => ?_
    have hl := hp.length_eq
    refine hq _ ys hp hs ?_ (by simp) (fun b' hb' => St.put_other (fun e => hb' (by rw [e]))) (fun hL b' hb' => ?_)
    · rw [← hl]
      refine .row (post := post) (tl := tl) (by simpa using hlt) (by rw [St.put_self]) (by rw [hl]; exact hc)
    · cases hb'
      obtain ⟨vs, h⟩ := hL b rfl
      rw [hb] at h
      simp at h
      exact ⟨_, by rw [St.put_self, h.2]⟩

theorem Puncture_spec {tp : Nat} {ρ : Option Nat} {hs : List Hd} {n : Nat} (hn : n < 18446744073709551616) {Q : Post} {s : St} (ht : TreeR s tp ρ hs)
    (hq : ∀ u s' ρ' hs', TreeR s' tp ρ' hs' → (∀ m, Cov hs' m ↔ Cov hs m ∧ m ≠ n) → s.next ≤ s'.next → Grew s ρ ρ' → (∀ b, b < s.next → b ≠ tp → some b ≠ ρ → s'.heap b = s.heap b) → Q u s') : CC laidS 10 [.pointer (some ⟨tp, 0, none⟩), .int .u64 n] Q s := by
  have hl := laidS_bare
  refine calls_body (hl 10 (by decide)) ?_
  rw [f10xeq, f10xS]
  simp -implicitDefEqProofs (disch := first | omega | (simp -implicitDefEqProofs <;> omega) | fail) [wrap_i64, wrap_u64, wrap_u8, binV_shr, binV_shl, binV_rem, binV_quo, Int.fdiv_eq_ediv_of_nonneg, Int.tdiv_eq_ediv_of_nonneg, Int.tmod_eq_emod_of_nonneg, callG_body, idxAddr_arr, idxAddr_slc, St.alloc_old, St.alloc_at, St.put_other, St.alloc_put_old, St.alloc_put_new]
  refine find_spec hl hn ht (fun i hi hc => ?_) (fun hc => ?_)
  · obtain ⟨⟨cv, v, tl, hb, ho⟩, htρ, htn, law⟩ := ht
    have hlen := law.len
    obtain ⟨b, c, post, tlb, rfl, rfl, hbn, hbb, hcap⟩ := ho.ne (by intro e; simp [e] at hi)
    have hA : heldE.At (s.alloc (.cells [.slice none 0 0] false)) b 0 hs := ⟨[], post, tlb, by simp -implicitDefEqProofs (disch := first | omega | (simp -implicitDefEqProofs <;> omega) | fail) [wrap_i64, wrap_u64, wrap_u8, binV_shr, binV_shl, binV_rem, binV_quo, Int.fdiv_eq_ediv_of_nonneg, Int.tdiv_eq_ediv_of_nonneg, Int.tmod_eq_emod_of_nonneg, callG_body, idxAddr_arr, idxAddr_slc, St.alloc_old, St.alloc_at, St.put_other, St.alloc_put_old, St.alloc_put_new, hbb], rfl⟩
    have hagg := hA.agg hi
    simp only [Nat.zero_add] at hagg
    have htb : tp ≠ b := fun e => htρ (by rw [e])
    simp -implicitDefEqProofs (disch := first | omega | (simp -implicitDefEqProofs <;> omega) | fail) [wrap_i64, wrap_u64, wrap_u8, binV_shr, binV_shl, binV_rem, binV_quo, Int.fdiv_eq_ediv_of_nonneg, Int.tdiv_eq_ediv_of_nonneg, Int.tmod_eq_emod_of_nonneg, callG_body, idxAddr_arr, idxAddr_slc, St.alloc_old, St.alloc_at, St.put_other, St.alloc_put_old, St.alloc_put_new, f10xJ1, hb, hagg, mkFn, Value.oneCell']
    refine down_spec hl (law.ok _ (List.getElem_mem hi)) hc (r := s.next) (v := .slice none 0 0) (tl := false) (ρ := none) ((St.alloc_old htn).trans hb) (by omega) (by simp) (by simp; omega) St.alloc_self (by simp) .nil (by simp) fun v1 s1 ρ1 rest u w1 w2 w3 w4 w5 w6 w7 w8 w9 w10 w11 => ?_
    have hn1 : s.next + 1 ≤ s1.next := by simpa using w4
    have hρ1 : ∀ x, some x = ρ1 → s.next + 1 ≤ x := fun x hx => by
      rcases w5 with h | ⟨y, h, hy⟩
      · rw [h] at hx; cases hx
      · rw [← hx] at h; cases h; simpa using hy
    have hs1 : ∀ x, x < s.next → s1.heap x = s.heap x := fun x hx => by
      rw [w6 x (by simp; omega) (by omega) (by simp)]; simp -implicitDefEqProofs (disch := first | omega | (simp -implicitDefEqProofs <;> omega) | fail) [wrap_i64, wrap_u64, wrap_u8, binV_shr, binV_shl, binV_rem, binV_quo, Int.fdiv_eq_ediv_of_nonneg, Int.tdiv_eq_ediv_of_nonneg, Int.tmod_eq_emod_of_nonneg, callG_body, idxAddr_arr, idxAddr_slc, St.alloc_old, St.alloc_at, St.put_other, St.alloc_put_old, St.alloc_put_new]
    simp -implicitDefEqProofs (disch := first | omega | (simp -implicitDefEqProofs <;> omega) | fail) [wrap_i64, wrap_u64, wrap_u8, binV_shr, binV_shl, binV_rem, binV_quo, Int.fdiv_eq_ediv_of_nonneg, Int.tdiv_eq_ediv_of_nonneg, Int.tmod_eq_emod_of_nonneg, callG_body, idxAddr_arr, idxAddr_slc, St.alloc_old, St.alloc_at, St.put_other, St.alloc_put_old, St.alloc_put_new, w1]
    refine sort_call w2 (by omega) fun s2 ys hp hsrt x1 x2 x3 x4 => ?_
    have hs2 : ∀ x, x < s.next → s2.heap x = s.heap x := fun x hx => by
      rw [x3 x (fun e => by have := hρ1 x e; omega), hs1 x hx]
    have hr2 : s2.heap s.next = some (.cells [v1] false) := by
      rw [x3 _ w3]; exact w1
    have hyl : ys.length = rest.length := hp.length_eq
    simp -implicitDefEqProofs (disch := first | omega | (simp -implicitDefEqProofs <;> omega) | fail) [wrap_i64, wrap_u64, wrap_u8, binV_shr, binV_shl, binV_rem, binV_quo, Int.fdiv_eq_ediv_of_nonneg, Int.tdiv_eq_ediv_of_nonneg, Int.tmod_eq_emod_of_nonneg, callG_body, idxAddr_arr, idxAddr_slc, St.alloc_old, St.alloc_at, St.put_other, St.alloc_put_old, St.alloc_put_new, hs2, hb, hr2]
    have ho2 : heldE.Own s2 (.slice (some ⟨b, 0, none⟩) hs.length c) (some b) hs := ho.same (by omega) (fun x hx => by cases hx; exact hs2 b hbn)
    refine (DelHeld_spec hl (i := i) (j := i + 1) ho2 (by omega) (by omega) (by omega) fun v3 s3 y1 y2 y3 => ?_ : CC laidS 38 _ _ _)
    have hs3 : ∀ x, x < s.next → x ≠ b → s3.heap x = s.heap x := fun x hx hxb => by
      rw [y3 x (by omega) (fun e => hxb (by cases e; rfl)), hs2 x hx]
    have hr3 : s3.heap s.next = some (.cells [v1] false) := by
      rw [y3 _ (by omega) (fun e => by cases e; omega)]; exact hr2
    have hap : Apart s3 v1 (some b) ys := by
      by_cases hy : ys = []
      · subst hy
        exact .nil (x1.same (by omega) (fun x hx => y3 x (by subst hx; exact x1.lt) (fun e => by cases e; have := hρ1 b hx.symm; omega))).sl
      · obtain ⟨b1, c1, post1, tl1, rfl, rfl, z1, z2, z3⟩ := x1.ne hy
        obtain ⟨vs, hL⟩ := x4 (w7 Long.none) b1 rfl
        rw [z2] at hL
        simp at hL
        have := hρ1 b1 rfl
        have hbb1 : some b1 ≠ some b := fun e => by cases e; omega
        refine .row hy (by omega) hbb1 (post := post1) ?_
        rw [y3 b1 z1 hbb1, z2, hL.2]
    simp -implicitDefEqProofs (disch := first | omega | (simp -implicitDefEqProofs <;> omega) | fail) [wrap_i64, wrap_u64, wrap_u8, binV_shr, binV_shl, binV_rem, binV_quo, Int.fdiv_eq_ediv_of_nonneg, Int.tdiv_eq_ediv_of_nonneg, Int.tmod_eq_emod_of_nonneg, callG_body, idxAddr_arr, idxAddr_slc, St.alloc_old, St.alloc_at, St.put_other, St.alloc_put_old, St.alloc_put_new, hr3]
    refine InsHeld_spec hl (i := i) y1 hap (by simp; omega) (by omega) (by simp; omega) (.inr (.inr trivial)) fun v4 s4 ρ4 u1 u2 u3 u4 => ?_
    have e1 : (hs.take i ++ hs.drop (i + 1)).take i = hs.take i := by
      rw [List.take_append_of_le_length (by simp; omega)]; exact List.take_of_length_le (by simp; omega)
    have e2 : (hs.take i ++ hs.drop (i + 1)).drop i = hs.drop (i + 1) := by
      rw [List.drop_append_of_le_length (by simp; omega), List.drop_of_length_le (by simp; omega)]; rfl
    rw [e1, e2] at u1
    have hs4 : ∀ x, x < s.next → x ≠ b → s4.heap x = s.heap x := fun x hx hxb => by
      rw [u4 x (by omega) (fun e => hxb (by cases e; rfl)), hs3 x hx hxb]
    have hval := u1.val
    have htp4 : s4.heap tp = _ := (hs4 tp htn htb).trans hb
    simp -implicitDefEqProofs (disch := first | omega | (simp -implicitDefEqProofs <;> omega) | fail) [wrap_i64, wrap_u64, wrap_u8, binV_shr, binV_shl, binV_rem, binV_quo, Int.fdiv_eq_ediv_of_nonneg, Int.tdiv_eq_ediv_of_nonneg, Int.tmod_eq_emod_of_nonneg, callG_body, idxAddr_arr, idxAddr_slc, St.alloc_old, St.alloc_at, St.put_other, St.alloc_put_old, St.alloc_put_new, htp4, hval]
    obtain ⟨l1, l2⟩ := law_put law hi (fun x hx => w9 x (hp.mem_iff.1 hx)) (fun m => by rw [← w10 m]; simp only [Cov, hp.mem_iff]) (hp.symm.pairwise_iff (fun h m hm => h m hm.symm) |>.1 w11) hsrt
    have hρ4 : ∀ x, some x = ρ4 → x ≠ tp := fun x hx => by
      rcases u3 with h | ⟨y, h, hy⟩
      · rw [h] at hx; cases hx; exact Ne.symm htb
      · rw [← hx] at h; cases h; omega
    refine kEnd_keep (hq _ _ ρ4 _ ⟨⟨cv, v4, tl, St.put_self, u1.same (by simp) (fun x hx => St.put_other (hρ4 x hx.symm))⟩, fun e => hρ4 tp e rfl, by simp; omega, l1⟩ (fun m => ?_) (by simp; omega) ?_ (fun x hx hxt hxb => ?_))
    · rw [l2 m, cov_split hi m]
      obtain ⟨h1, h2⟩ := law_apart law hi hc
      constructor
      · rintro (h | ⟨h, h'⟩ | h)
        · exact ⟨.inl h, fun e => h1 (e ▸ h)⟩
        · exact ⟨.inr (.inl h), h'⟩
        · exact ⟨.inr (.inr h), fun e => h2 (e ▸ h)⟩
      · rintro ⟨h | h | h, h'⟩
        · exact .inl h
        · exact .inr (.inl ⟨h, h'⟩)
        · exact .inr (.inr h)
    · rcases u3 with h | ⟨y, h, hy⟩
      · exact .inl h
      · exact .inr ⟨y, h, by omega⟩
    · rw [St.put_other hxt, hs4 x hx (fun e => hxb (by rw [e]))]
  · simp -implicitDefEqProofs (disch := first | omega | (simp -implicitDefEqProofs <;> omega) | fail) [wrap_i64, wrap_u64, wrap_u8, binV_shr, binV_shl, binV_rem, binV_quo, Int.fdiv_eq_ediv_of_nonneg, Int.tdiv_eq_ediv_of_nonneg, Int.tmod_eq_emod_of_nonneg, callG_body, idxAddr_arr, idxAddr_slc, St.alloc_old, St.alloc_at, St.put_other, St.alloc_put_old, St.alloc_put_new]
    refine hq _ s ρ hs ht (fun m => ⟨fun h => ⟨h, fun e => hc (e ▸ h)⟩, fun h => h.1⟩) (Nat.le_refl _) (.inl rfl) (fun _ _ _ _ => rfl)

end Go.Zz
