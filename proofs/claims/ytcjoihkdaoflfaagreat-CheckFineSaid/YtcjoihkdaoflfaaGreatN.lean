/- A region that leaves its order open: what its plan says. -/
import Derived.Test.YtcjoihkdaoflfaaGreatM
set_option linter.all false
namespace Go.Zz
open Go

theorem lastB_some {p : Nat → Bool} : ∀ {n j : Nat}, lastB p n = some j → j < n ∧ p j = true ∧ ∀ k, j < k → k < n → p k = false
  | 0, _, h => by cases h
  | n + 1, j, h => by
    unfold lastB at h
    cases hp : p n with
    | true =>
      simp only [hp, if_true, Option.some.injEq] at h
      subst h
      exact ⟨Nat.lt_succ_self _, hp, fun k h1 h2 => by omega⟩
    | false =>
      simp only [hp, Bool.false_eq_true, if_false] at h
      obtain ⟨h1, h2, h3⟩ := lastB_some h
      refine ⟨by omega, h2, fun k hk hk' => ?_⟩
      by_cases he : k = n
      · rw [he]; exact hp
      · exact h3 k hk (by omega)

theorem lastB_none {p : Nat → Bool} : ∀ {n : Nat}, lastB p n = none → ∀ k, k < n → p k = false
  | 0, _ => fun k hk => by omega
  | n + 1, h => fun k hk => by
    unfold lastB at h
    cases hp : p n with
    | true => simp [hp] at h
    | false =>
      simp only [hp, Bool.false_eq_true, if_false] at h
      by_cases he : k = n
      · rw [he]; exact hp
      · exact lastB_none h k (by omega)

/-- Closed under what must come ahead. -/
def Closed (L : List Oper) (S : Nat → Prop) : Prop := ∀ (i : Nat) (o : Oper), L[i]? = some o → S i → ∀ e ∈ o.after, Region.binds .any e = true → S e.on
def Reach (L : List Oper) (i j : Nat) : Prop := ∀ S, Closed L S → S i → S j

theorem maskOf_fold {acc : List Nat} {j : Nat} : ∀ (l : List Edge) (m : Nat), (l.foldl (fun m e => if Region.binds .any e then m ||| (1 <<< e.on) ||| acc.getD e.on 0 else m) m).testBit j = true →
    m.testBit j = true ∨ ∃ e ∈ l, Region.binds .any e = true ∧ (e.on = j ∨ (acc.getD e.on 0).testBit j = true) := by
  intro l
  induction l with
  | nil => intro m h; exact .inl h
  | cons e l ih =>
    intro m h
    rw [List.foldl_cons] at h
    rcases ih _ h with h | ⟨e', he', hb, h⟩
    · split at h
      · rename_i hb
        simp only [Nat.testBit_or, Bool.or_eq_true, Nat.one_shiftLeft, Nat.testBit_two_pow, decide_eq_true_eq] at h
        rcases h with (h | h) | h
        · exact .inl h
        · exact .inr ⟨e, by simp, hb, .inl h⟩
        · exact .inr ⟨e, by simp, hb, .inr h⟩
      · exact .inl h
    · exact .inr ⟨e', by simp [he'], hb, h⟩

theorem mask_reach {L : List Oper} {bef : List Nat} (h : ∀ i o, L[i]? = some o → bef.getD i 0 = maskOf bef o ∧ ∀ e ∈ o.after, Region.binds .any e = true → e.on < i) :
    ∀ i j, i < L.length → hasBit bef i j = true → Reach L i j := by
  intro i
  induction i using Nat.strongRecOn with
  | _ i ih =>
    intro j hi hj S hS hSi
    have ho := List.getElem?_eq_getElem hi
    obtain ⟨h1, h2⟩ := h i _ ho
    unfold hasBit at hj
    rw [h1] at hj
    unfold maskOf at hj
    rcases maskOf_fold _ _ hj with h0 | ⟨e, he, hb, h3⟩
    · simp at h0
    · have he' : e ∈ L[i].after := by simpa using he
      have hon := hS _ _ ho hSi e he' hb
      rcases h3 with rfl | h3
      · exact hon
      · exact ih e.on (h2 e he' hb) j (Nat.lt_trans (h2 e he' hb) hi) h3 S hS hon

structure Ok (P : Program) (L : List Oper) (p : Plan) (n : Nat) : Prop where
  es : p.es = (List.range L.length).filter (isK .e L)
  back : ∀ (i : Nat) (o : Oper), L[i]? = some o → ∀ e ∈ o.after, Region.binds .any e = true → e.on < i
  ord : ∀ l k, l < p.es.length → k < l → Reach L (p.es.getD l 0) (p.es.getD k 0)
  raw : ∀ y x d, y < L.length → x < y → dstAt L x = some d → d ∈ tmpsAt L y → Reach L y x
  waw : ∀ y x d, y < L.length → x < y → dstAt L x = some d → dstAt L y = some d → Reach L y x
  war : ∀ y x d, y < L.length → x < y → dstAt L y = some d → d ∈ tmpsAt L x → Reach L y x
  grd : ∀ (i : Nat) (o : Oper) (j : Nat) (b : Bool), L[i]? = some o → o.guard = some (j, b) → j < i ∧ Reach L i j ∧ isK .a L i = false ∧ isK .a L j = false ∧ ∃ d, dstAt L j = some d ∧ ∀ k, dstAt L k = some d → k = j
  avm : ∀ i, i < L.length → isK .e L i = false → p.av.getD i 0 ≤ p.es.length ∧ p.hi.getD i 0 ≤ p.es.length ∧ (p.hi.getD i 0 = p.es.length ∨ Reach L (p.es.getD (p.hi.getD i 0) 0) i)
  ava : ∀ i, i < L.length → isK .a L i = true → p.av.getD i 0 = p.hi.getD i 0
  avl : ∀ i, i < L.length → isK .e L i = false → isK .a L i = false → ∀ k, k < p.av.getD i 0 → Reach L i (p.es.getD k 0)
  avs : ∀ i, i < L.length → isK .e L i = false → isK .a L i = false → ∀ j ∈ srcs L i, if isK .e L j = true then j ∈ p.es.take (p.av.getD i 0) else isK .a L j = false ∧ p.av.getD j 0 ≤ p.av.getD i 0
  ese : ∀ k, k < p.es.length → ∀ j ∈ srcs L (p.es.getD k 0), if isK .e L j = true then j ∈ p.es.take k else p.av.getD j 0 ≤ k
  dst : ∀ i d, dstAt L i = some d → d < n
  made : ∀ (i : Nat) (o : Oper), L[i]? = some o → kindOf o = .a → (newA P o.op (fun _ => undef)).isSome

theorem isK_lt {k : Kind} {L : List Oper} {i : Nat} (h : isK k L i = true) : i < L.length := by
  unfold isK at h
  split at h
  · rename_i o ho; exact (List.getElem?_eq_some_iff.1 ho).1
  · cases h
theorem dstAt_lt {L : List Oper} {i d : Nat} (h : dstAt L i = some d) : i < L.length := by
  unfold dstAt at h
  cases ho : L[i]? with
  | none => rw [ho] at h; cases h
  | some o => exact (List.getElem?_eq_some_iff.1 ho).1

theorem okPlan_ok {P : Program} {L : List Oper} {p : Plan} {n : Nat} (h : (okPlan L p n && ok7 P L) = true) : Ok P L p n := by
  unfold okPlan at h
  simp only [Bool.and_eq_true, beq_iff_eq] at h
  obtain ⟨⟨⟨⟨⟨⟨⟨hes, h1⟩, h2⟩, h3⟩, h4⟩, h5⟩, h6⟩, h7⟩ := h
  unfold ok1 at h1
  simp only [Bool.and_eq_true, List.all_eq_true, List.mem_range] at h1
  have hm : ∀ (i : Nat) (o : Oper), L[i]? = some o → p.bef.getD i 0 = maskOf p.bef o ∧ ∀ e ∈ o.after, Region.binds .any e = true → e.on < i := fun i o ho => by
    have := h1.1 i (List.getElem?_eq_some_iff.1 ho).1
    simp only [ho, Bool.and_eq_true, List.all_eq_true] at this
    refine ⟨Nat.eq_of_beq_eq_true this.1, fun e he hb => ?_⟩
    have := this.2 e (by simpa using he)
    simpa [hb] using this
  have R : ∀ {i j}, i < L.length → hasBit p.bef i j = true → Reach L i j := fun {i j} hi hb => mask_reach hm i j hi hb
  have hel : ∀ l, l < p.es.length → p.es.getD l 0 < L.length := fun l hl => by
    have hmem : p.es.getD l 0 ∈ p.es := by rw [List.getD_eq_getElem?_getD, List.getElem?_eq_getElem hl]; exact List.getElem_mem hl
    rw [hes, List.mem_filter, List.mem_range] at hmem
    rw [hes]
    exact hmem.1
  unfold ok2 at h2
  simp only [List.all_eq_true, List.mem_range] at h2
  unfold ok3 at h3
  simp only [List.all_eq_true, List.mem_range] at h3
  unfold ok4 at h4
  simp only [List.all_eq_true, List.mem_range] at h4
  unfold ok5 at h5
  simp only [List.all_eq_true, List.mem_range] at h5
  unfold ok6 at h6
  unfold ok7 at h7
  refine ⟨hes, ?_, fun l k hl hk => R (hel l hl) (h1.2 l hl k hk), ?_, ?_, ?_, ?_, ?_, ?_, ?_, ?_, ?_, ?_, ?_⟩
  · exact fun i o ho => (hm i o ho).2
  · intro y x d hy hx hd hmm
    have := h2 y hy x hx
    simp only [Bool.or_eq_true, Bool.and_eq_true] at this
    rcases this with this | this
    · exact R hy this
    · have := this.1
      rw [hd] at this
      simp [hmm] at this
  · intro y x d hy hx hd hmm
    have := h2 y hy x hx
    simp only [Bool.or_eq_true, Bool.and_eq_true] at this
    rcases this with this | this
    · exact R hy this
    · have := this.1
      rw [hd] at this
      simp [hmm] at this
  · intro y x d hy hx hd hmm
    have := h2 y hy x hx
    simp only [Bool.or_eq_true, Bool.and_eq_true] at this
    rcases this with this | this
    · exact R hy this
    · have := this.2
      rw [hd] at this
      simp [hmm] at this
  · intro i o j b ho hg
    have := h3 i (List.getElem?_eq_some_iff.1 ho).1
    rw [ho] at this
    simp only [hg, Bool.and_eq_true, decide_eq_true_eq, Bool.not_eq_true'] at this
    obtain ⟨⟨⟨⟨g1, g2⟩, g3⟩, g4⟩, g5⟩ := this
    refine ⟨g1, R (List.getElem?_eq_some_iff.1 ho).1 g2, g3, g4, ?_⟩
    cases hd : dstAt L j with
    | none => rw [hd] at g5; cases g5
    | some d =>
      rw [hd] at g5
      refine ⟨d, rfl, fun k hk => ?_⟩
      simp only [List.all_eq_true, List.mem_range] at g5
      have := g5 k (dstAt_lt hk)
      simpa [hk] using this
  · intro i hi he
    have := h4 i hi
    simp only [he, Bool.false_or, Bool.and_eq_true, decide_eq_true_eq, Bool.or_eq_true, beq_iff_eq] at this
    refine ⟨this.1.1.1, this.1.1.2, ?_⟩
    rcases Nat.lt_or_ge (p.hi.getD i 0) p.es.length with hlt | hge
    · exact this.1.2.imp id (R (hel _ hlt))
    · exact .inl (by omega)
  · intro i hi ha
    have := h4 i hi
    have he : isK .e L i = false := by
      unfold isK at ha ⊢
      split at ha
      · rename_i o ho; have : kindOf o = .a := by simpa using ha
        simp [this]
      · rfl
    simp only [he, Bool.false_or, Bool.and_eq_true, ha, if_true, beq_iff_eq] at this
    exact this.2
  · intro i hi he ha k hk
    have := h4 i hi
    simp only [he, Bool.false_or, Bool.and_eq_true, ha, Bool.false_eq_true, if_false, List.all_eq_true, List.mem_range] at this
    exact R hi (this.2.1 k hk)
  · intro i hi he ha j hj
    have := h4 i hi
    simp only [he, Bool.false_or, Bool.and_eq_true, ha, Bool.false_eq_true, if_false, List.all_eq_true, List.mem_range] at this
    have := this.2.2 j hj
    split
    · rename_i h; simpa [h] using this
    · rename_i h; simpa [h] using this
  · intro k hk j hj
    have := h5 k hk j hj
    split
    · rename_i h; simpa [h] using this
    · rename_i h; simpa [h] using this
  · intro i d hd
    unfold dstAt at hd
    cases ho : L[i]? with
    | none => rw [ho] at hd; cases hd
    | some o =>
      rw [ho] at hd
      rw [List.all_eq_true] at h6
      have := h6 o (List.mem_of_getElem? ho)
      have hd : o.dst = some d := hd
      rw [hd] at this
      simpa using this
  · intro i o ho hk
    rw [List.all_eq_true] at h7
    have := h7 o (List.mem_of_getElem? ho)
    simpa [hk] using this

end Go.Zz
