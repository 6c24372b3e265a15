/- What comes in: plain cells of the machine's memory, that are only read, as blocks of the abstract heap. -/
import Derived.Test.YtcjoihkdaoflfaaGreatWn
set_option linter.all false
set_option maxRecDepth 20000
namespace Go.Zz
open Go

/-- Cells that lie one behind the other. -/
structure Rng where
  cb : Nat
  lo : Nat
  n : Nat
def Rng.has (r : Rng) (cb o : Nat) : Prop := r.cb = cb ∧ r.lo ≤ o ∧ o < r.lo + r.n
/-- Plain values stand there, and nothing of it is frozen. -/
def Rng.Known (w : World) (r : Rng) : Prop := 0 < r.n ∧ ∃ c e fr, w.heap[r.cb]? = some (.cells c e fr) ∧ ∀ o, r.lo ≤ o → o < r.lo + r.n → ∃ y, c[o]? = some y ∧ plain y = true ∧ ¬ (fr.1 ≤ o ∧ o < fr.2)
def Rng.Apart (r q : Rng) : Prop := ∀ cb o, ¬ (r.has cb o ∧ q.has cb o)
def Rng.Sub (r q : Rng) : Prop := r.cb = q.cb ∧ q.lo ≤ r.lo ∧ r.lo + r.n ≤ q.lo + q.n
theorem Rng.Sub.refl (r : Rng) : r.Sub r := ⟨rfl, Nat.le_refl _, Nat.le_refl _⟩
theorem Rng.Sub.trans {a b c : Rng} (h : a.Sub b) (k : b.Sub c) : a.Sub c := ⟨h.1.trans k.1, Nat.le_trans k.2.1 h.2.1, Nat.le_trans h.2.2 k.2.2⟩

theorem rng_put (w : World) : ∀ (n : Nat) (H : List Rng) (r : Rng), H.length = n → (∀ q ∈ H, q.Known w) → H.Pairwise Rng.Apart → r.Known w →
    ∃ H' : List Rng, (∀ q ∈ H', q.Known w) ∧ H'.Pairwise Rng.Apart ∧ (∃ q ∈ H', r.Sub q) ∧ ∀ h ∈ H, ∃ q ∈ H', h.Sub q := by
  intro n
  induction n with
  | zero =>
    intro H r hn hk hp hr
    have : H = [] := by simpa using hn
    subst this
    exact ⟨[r], by simpa using hr, by simp, ⟨r, by simp, .refl r⟩, by simp⟩
  | succ n ih =>
    intro H r hn hk hp hr
    by_cases ho : ∃ h ∈ H, ¬ h.Apart r
    · obtain ⟨h, hh, hna⟩ := ho
      have hov : ∃ cb o, h.has cb o ∧ r.has cb o := by
        simp only [Rng.Apart] at hna
        by_cases hx : ∃ cb o, h.has cb o ∧ r.has cb o
        · exact hx
        · exact absurd (fun cb o hh => hx ⟨cb, o, hh⟩) hna
      obtain ⟨cb, o, ⟨a1, a2, a3⟩, b1, b2, b3⟩ := hov
      obtain ⟨i, hi, rfl⟩ := List.getElem_of_mem hh
      have hcb : H[i].cb = r.cb := a1.trans b1.symm
      let u : Rng := ⟨r.cb, min H[i].lo r.lo, max (H[i].lo + H[i].n) (r.lo + r.n) - min H[i].lo r.lo⟩
      have hu : u.Known w := by
        obtain ⟨h0, c, e, fr, h1, h2⟩ := hr
        obtain ⟨_, c', e', fr', h1', h2'⟩ := hk _ hh
        rw [hcb, h1] at h1'
        cases h1'
        refine ⟨by simp only [u]; omega, c, e, fr, h1, fun x hx1 hx2 => ?_⟩
        simp only [u] at hx1 hx2
        by_cases hx : r.lo ≤ x ∧ x < r.lo + r.n
        · exact h2 x hx.1 hx.2
        · exact h2' x (by omega) (by omega)
      have hp' : (H.eraseIdx i).Pairwise Rng.Apart := hp.sublist (List.eraseIdx_sublist H i)
      obtain ⟨H', k1, k2, ⟨q, hq, hs⟩, k4⟩ := ih (H.eraseIdx i) u (by rw [List.length_eraseIdx]; simp [hi]; omega) (fun q hq => hk q (List.mem_of_mem_eraseIdx hq)) hp' hu
      have su : r.Sub u := ⟨rfl, by simp only [u]; omega, by simp only [u]; omega⟩
      have sh : H[i].Sub u := ⟨hcb, by simp only [u]; omega, by simp only [u]; omega⟩
      refine ⟨H', k1, k2, ⟨q, hq, su.trans hs⟩, fun g hg => ?_⟩
      obtain ⟨j, hj, rfl⟩ := List.getElem_of_mem hg
      by_cases hij : j = i
      · subst hij; exact ⟨q, hq, sh.trans hs⟩
      · exact k4 _ (List.mem_eraseIdx_iff_getElem.2 ⟨j, hj, hij, rfl⟩)
    · refine ⟨r :: H, fun q hq => ?_, ?_, ⟨r, by simp, .refl r⟩, fun h hh => ⟨h, by simp [hh], .refl h⟩⟩
      · rcases List.mem_cons.1 hq with rfl | hq
        · exact hr
        · exact hk q hq
      · rw [List.pairwise_cons]
        refine ⟨fun q hq cb o hh => ?_, hp⟩
        have : ¬ ¬ q.Apart r := fun hx => ho ⟨q, hq, hx⟩
        exact this (fun hx => hx cb o hh.symm)

/-- Ranges, however they overlap, lie in ranges that don't. -/
theorem rng_all (w : World) (L : List Rng) (hL : ∀ r ∈ L, r.Known w) : ∃ H : List Rng, (∀ q ∈ H, q.Known w) ∧ H.Pairwise Rng.Apart ∧ ∀ r ∈ L, ∃ q ∈ H, r.Sub q := by
  induction L with
  | nil => exact ⟨[], by simp, by simp, by simp⟩
  | cons r t ih =>
    obtain ⟨H, h1, h2, h3⟩ := ih (fun q hq => hL q (by simp [hq]))
    obtain ⟨H', k1, k2, k3, k4⟩ := rng_put w H.length H r rfl h1 h2 (hL r (by simp))
    refine ⟨H', k1, k2, fun q hq => ?_⟩
    rcases List.mem_cons.1 hq with rfl | hq
    · exact k3
    · obtain ⟨u, hu, hs⟩ := h3 q hq
      obtain ⟨v, hv, hs'⟩ := k4 u hu
      exact ⟨v, hv, hs.trans hs'⟩

/-- The abstract heap of ranges. -/
def rngCells (w : World) (r : Rng) : List Value := (List.range r.n).map fun i => (w.cell? ⟨r.cb, r.lo + i, none⟩).getD undef
def stR (w : World) (H : List Rng) : St := ⟨fun b => if b < 1000 then none else (H[b - 1000]?).map fun r => .cells (rngCells w r) false, 1000 + H.length⟩
def JR (H : List Rng) : Nat → Plc := fun b => if b < 1000 then ⟨b, 0, 0, 0⟩ else match H[b - 1000]? with
  | some r => ⟨r.cb, r.lo, r.n, 1⟩
  | none => ⟨b, 0, 0, 0⟩
theorem stR_inv {w : World} {H : List Rng} {b : Nat} {x : AObj} (h : (stR w H).heap b = some x) : ∃ i r, b = 1000 + i ∧ H[i]? = some r ∧ x = .cells (rngCells w r) false := by
  simp only [stR] at h
  split at h
  · cases h
  · rename_i hb
    cases hr : H[b - 1000]? with
    | none => rw [hr] at h; cases h
    | some r => rw [hr] at h; cases h; exact ⟨b - 1000, r, by omega, hr, rfl⟩
theorem JR_at {H : List Rng} {i : Nat} {r : Rng} (h : H[i]? = some r) : JR H (1000 + i) = ⟨r.cb, r.lo, r.n, 1⟩ := by
  have : 1000 + i - 1000 = i := by omega
  simp [JR, this, h]
theorem rngCells_get {w : World} {r : Rng} (hk : r.Known w) {i : Nat} {x : Value} (h : (rngCells w r)[i]? = some x) : ∃ c e fr, w.heap[r.cb]? = some (.cells c e fr) ∧ c[r.lo + i]? = some x ∧ plain x = true ∧ i < r.n := by
  obtain ⟨_, c, e, fr, h1, h2⟩ := hk
  have hi : i < r.n := by have := (List.getElem?_eq_some_iff.1 h).1; simpa [rngCells] using this
  obtain ⟨y, hy, hp, _⟩ := h2 (r.lo + i) (by omega) (by omega)
  refine ⟨c, e, fr, h1, ?_, ?_, hi⟩ <;> simp only [rngCells, List.getElem?_map, List.getElem?_range hi, Option.map_some, World.cell?, h1] at h <;> simp [hy] at h
  · rw [hy, h]
  · rw [← h]; exact hp

theorem stR_sim (w : World) (H : List Rng) (hk : ∀ r ∈ H, r.Known w) (hp : H.Pairwise Rng.Apart) : Sim 1000 (stR w H) (JR H) w where
  live b x hx := by
    obtain ⟨i, r, rfl, hr, _⟩ := stR_inv hx
    have := (List.getElem?_eq_some_iff.1 hr).1
    simp only [stR]; omega
  obj b x hx := by
    obtain ⟨i, r, rfl, hr, rfl⟩ := stR_inv hx
    have hkr := hk r (List.mem_of_getElem? hr)
    rw [JR_at hr]
    obtain ⟨h0, c, e, fr, h1, h2⟩ := hkr
    refine ⟨by simp [rngCells], fun _ => by simp [rngCells], c, e, fr, h1, ?_, fun j x hx => ?_, fun j hj => ?_, fun j hj => ?_, fun h => by cases h⟩
    · obtain ⟨y, hy, _⟩ := h2 (r.lo + r.n - 1) (by omega) (by omega)
      have := (Array.getElem?_eq_some_iff.1 hy).1
      simp only; omega
    · obtain ⟨c', e', fr', g1, g2, g3, _⟩ := rngCells_get ⟨h0, c, e, fr, h1, h2⟩ hx
      rw [h1] at g1
      cases g1
      exact ⟨x, g2, VR.plain g3⟩
    · obtain ⟨y, hy, hpl, _⟩ := h2 (r.lo + j) (by simp only at hj; omega) (by simp only at hj; omega)
      exact ⟨y, hy, (VR.plain (n := 0) (J := JR H) hpl).one_right⟩
    · obtain ⟨y, hy, _, hf⟩ := h2 (r.lo + j) (by simp only at hj; omega) (by simp only at hj; omega)
      exact hf
  apart b b' x x' cb o hne hx hx' ho ho' := by
    obtain ⟨i, r, rfl, hr, rfl⟩ := stR_inv hx
    obtain ⟨i', r', rfl, hr', rfl⟩ := stR_inv hx'
    rw [JR_at hr] at ho
    rw [JR_at hr'] at ho'
    obtain ⟨hi, rfl⟩ := List.getElem?_eq_some_iff.1 hr
    obtain ⟨hi', rfl⟩ := List.getElem?_eq_some_iff.1 hr'
    have hij : i ≠ i' := fun e => hne (by rw [e])
    rcases Nat.lt_or_gt_of_ne hij with h | h
    · exact List.pairwise_iff_getElem.1 hp i i' hi hi' h cb o ⟨ho, ho'⟩
    · exact List.pairwise_iff_getElem.1 hp i' i hi' hi h cb o ⟨ho', ho⟩
  glob g hg := ⟨by simp only [stR]; omega, by simp [JR, hg], by simp [JR, hg]⟩

theorem VR.float_inv {n : Nat} {J : Nat → Plc} {o : Bool} {y : Value} {k : FloatKind} {i : Nat} (h : VR n J o (.float k i) y) : y = .float k i := by
  generalize hx : Value.float k i = x at h
  induction h <;> first | (cases hx; rfl) | (unfold undef at hx; cases hx; done) | (rename_i ih; exact ih hx) | (cases hx; done)
theorem vr_plain_eq {n : Nat} {J : Nat → Plc} {o : Bool} {x y : Value} (h : VR n J o x y) (hp : plain x = true) : y = x := by
  cases x with
  | bool b => exact h.bool_inv
  | int k i => exact h.int_inv
  | float k i => exact h.float_inv
  | complex k a b => simp [plain] at hp
  | string s => exact h.string_inv
  | pointer a => cases a with
    | none => exact h.nilPtr_inv
    | some a => simp [plain] at hp
  | slice a l c => cases a with
    | none => obtain ⟨rfl, rfl, h'⟩ := h.nilSlice_inv; exact h'
    | some a => simp [plain] at hp
  | map r => cases r with
    | none => exact h.nilMap_inv
    | some r => simp [plain] at hp
  | chan r => simp [plain] at hp
  | func f a b =>
    obtain ⟨g, cs', rfl, rfl, rfl, hs, _⟩ := h.func_inv
    simp only [plain, Bool.and_eq_true, beq_iff_eq] at hp
    have h1 : b = #[] := by simpa using hp.2
    subst h1
    have h2 : cs' = #[] := by simpa using hs.symm
    rw [h2]
  | nilFunc => exact h.nilFunc_inv
  | iface t v => simp [plain] at hp
  | nilIface => exact h.nilIface_inv
  | agg cs => simp [plain] at hp
  | tuple vs => simp [plain] at hp

/-- Behind a call that has turned nothing of what is known, the machine's memory is as it was. -/
theorem stR_kept {w w' : World} {H : List Rng} {J' : Nat → Plc} (hk : ∀ r ∈ H, r.Known w) (hS : Sim 1000 (stR w H) J' w') (hst : Step (stR w H) (JR H) w (stR w H) J' w') {cb : Nat} (hcb : cb < w.heap.size) : w'.heap[cb]? = w.heap[cb]? := by
  by_cases hno : ∀ o, ¬ Owned (stR w H) (JR H) cb o
  · exact hst.block hcb hno
  · obtain ⟨o0, ho0⟩ : ∃ o, Owned (stR w H) (JR H) cb o := by
      by_cases hx : ∃ o, Owned (stR w H) (JR H) cb o
      · exact hx
      · exact absurd (fun o ho => hx ⟨o, ho⟩) hno
    obtain ⟨b0, x0, hx0, hown0⟩ := ho0
    obtain ⟨i0, r0, rfl, hr0, rfl⟩ := stR_inv hx0
    rw [JR_at hr0] at hown0
    obtain ⟨c, e, fr, h1, _⟩ := (hk r0 (List.mem_of_getElem? hr0)).2
    have hcb0 : r0.cb = cb := hown0.1
    rw [hcb0] at h1
    obtain ⟨c', g1, g2, g3⟩ := hst.row cb c e fr h1
    have : c' = c := by
      apply Array.ext_getElem?
      intro o
      by_cases ho : Owned (stR w H) (JR H) cb o
      · obtain ⟨b, x, hx, hown⟩ := ho
        obtain ⟨i, r, rfl, hr, rfl⟩ := stR_inv hx
        rw [JR_at hr] at hown
        obtain ⟨q1, q2, q3⟩ := hown
        simp only at q1 q2 q3
        have hx2 := hS.obj _ _ hx
        have hJ : J' (1000 + i) = JR H (1000 + i) := hst.ext _ (by have := (List.getElem?_eq_some_iff.1 hr).1; simp only [stR]; omega)
        rw [hJ, JR_at hr] at hx2
        obtain ⟨_, _, c2, e2, fr2, k1, _, k2, _⟩ := hx2
        simp only at k1 k2
        rw [q1, g1] at k1
        cases k1
        have hlt : o - r.lo < (rngCells w r).length := by simp [rngCells]; omega
        have hget := List.getElem?_eq_getElem hlt
        obtain ⟨y, hy, hv⟩ := k2 (o - r.lo) _ hget
        obtain ⟨c3, e3, fr3, m1, m2, m3, _⟩ := rngCells_get (hk r (List.mem_of_getElem? hr)) hget
        rw [q1, h1] at m1
        cases m1
        have eo : r.lo + (o - r.lo) = o := by omega
        rw [eo] at hy m2
        rw [hy, m2]
        exact congrArg some (vr_plain_eq hv m3)
      · exact g3 o ho
    rw [g1, h1, this]

end Go.Zz
