/- A region that leaves its order open: the machine's side. -/
import Derived.Test.YtcjoihkdaoflfaaGreatO
set_option linter.all false
namespace Go.Zz
open Go

variable {P : Program} {G : Nat} {F : Fence} {C : CallT} {L : List Oper} {p : Plan} {A : Fr}

def upd (cv : Nat → Value) (i : Nat) (v : Value) : Nat → Value := fun j => if j = i then v else cv j

/-- The frame, while operations S are done, and have given 'cv'. -/
structure Frm (L : List Oper) (S : Nat → Prop) (cv : Nat → Value) (a0 a : Act) : Prop where
  sz : a.tmps.size = a0.tmps.size
  defers : a.defers = []
  w : ∀ d j, d < a.tmps.size → S j → dstAt L j = some d → (∀ k, S k → dstAt L k = some d → k ≤ j) → a.tmps.getD d undef = cv j
  o : ∀ d, (∀ j, S j → dstAt L j ≠ some d) → a.tmps.getD d undef = a0.tmps.getD d undef

theorem Reach.now {S : Nat → Prop} {i j : Nat} {o : Oper} (h : Reach L i j) (hcl : Closed L S) (ho : L[i]? = some o) (hr : ∀ e ∈ o.after, Region.binds .any e = true → S e.on) (hne : j ≠ i) : S j := by
  have := h (fun k => S k ∨ k = i) (fun k o' ho' hk e he hb => by
    rcases hk with hk | rfl
    · exact .inl (hcl k o' ho' hk e he hb)
    · rw [ho] at ho'; cases ho'; exact .inl (hr e he hb)) (.inr rfl)
  exact this.resolve_right hne

theorem Closed.add {S : Nat → Prop} {i : Nat} {o : Oper} (hcl : Closed L S) (ho : L[i]? = some o) (hr : ∀ e ∈ o.after, Region.binds .any e = true → S e.on) : Closed L (fun k => S k ∨ k = i) := fun k o' ho' hk e he hb => by
  rcases hk with hk | rfl
  · exact .inl (hcl k o' ho' hk e he hb)
  · rw [ho] at ho'; cases ho'; exact .inl (hr e he hb)

theorem Frm.put {n : Nat} (ok : Ok P L p n) {S : Nat → Prop} {cv : Nat → Value} {a0 a : Act} (h : Frm L S cv a0 a) (hcl : Closed L S) (hb : ∀ j, S j → j < L.length) {i : Nat} {o : Oper} (ho : L[i]? = some o) (hn : ¬ S i)
    (v : Value) : Frm L (fun k => S k ∨ k = i) (upd cv i v) a0 (a.put o.dst v) := by
  have hlt := (List.getElem?_eq_some_iff.1 ho).1
  have hd : dstAt L i = o.dst := by simp [dstAt, ho]
  have hsz : (a.put o.dst v).tmps.size = a.tmps.size := by cases o.dst <;> simp [Act.put]
  have later : ∀ y d, S y → dstAt L y = some d → dstAt L i = some d → y < i := by
    intro y d hy hyd hid
    rcases Nat.lt_trichotomy y i with h | h | h
    · exact h
    · subst h; exact absurd hy hn
    · exact absurd (ok.waw y i d (hb y hy) h hid hyd S hcl hy) hn
  refine ⟨hsz.trans h.sz, by rw [← h.defers]; cases o.dst <;> rfl, ?_, ?_⟩
  · intro d j hdl hj hjd hmax
    rw [hsz] at hdl
    by_cases hid : dstAt L i = some d
    · have hji : j = i := by
        rcases hj with hj | hj
        · have := hmax i (.inr rfl) hid
          have := later j d hj hjd hid
          omega
        · exact hj
      subst hji
      rw [hd] at hjd
      simp [Act.put, hjd, upd, hdl]
    · have hji : j ≠ i := fun e => by subst e; exact hid hjd
      have hj' : S j := hj.resolve_right hji
      have := h.w d j hdl hj' hjd (fun k hk hkd => hmax k (.inl hk) hkd)
      simp only [upd, if_neg hji]
      rw [← this]
      cases hod : o.dst with
      | none => rfl
      | some d' =>
        have hne : d' ≠ d := fun e => hid (by rw [hd, hod, e])
        simp [Act.put, Array.getElem?_setIfInBounds_ne hne]
  · intro d hd0
    have := h.o d (fun j hj => hd0 j (.inl hj))
    rw [← this]
    cases hod : o.dst with
    | none => rfl
    | some d' =>
      have hne : d' ≠ d := fun e => hd0 i (.inr rfl) (by rw [hd, hod, e])
      simp [Act.put, Array.getElem?_setIfInBounds_ne hne]

/-- A block of zeros that is made, and that the calculus does not know yet. -/
def Rec (P : Program) (L : List Oper) (s : St) (J : Nat → Plc) (w0 w : World) (i : Nat) (y : Value) : Prop := ∃ o x ob blk, L[i]? = some o ∧ newA P o.op (fun _ => undef) = some (x, .ptr) ∧
  y = .pointer (some ⟨blk, 0, none⟩) ∧ w.heap[blk]? = some ob ∧ NewR s.next J x ob ∧ (∀ k, ¬ Owned s J blk k) ∧ w0.heap.size ≤ blk

structure Rel (P : Program) (G N : Nat) (L : List Oper) (A : Fr) (s0 : St) (J0 : Nat → Plc) (w0 : World) (a0 : Act) (S T : Nat → Prop) (vals : Nat → Value) (s : St) (J : Nat → Plc) (w : World) (cv : Nat → Value) : Prop where
  sim : Sim G s J w
  step : Step s0 J0 w0 s J w
  init : VRf N s.next J A a0.tmps
  rel : ∀ i, S i → ¬ T i → VR s.next J false (vals i) (cv i)
  recs : ∀ i, S i → T i → Rec P L s J w0 w i (cv i)
  sep : ∀ i j, i ≠ j → S i → S j → T i → T j → cv i ≠ cv j

theorem nval_ptr_rel {s : St} {J : Nat → Plc} (x : AObj) (blk : Nat) : VR (s.alloc x).next (putJ J s.next ⟨blk, 0, newExt x, 0⟩) false (NewV.val .ptr s.next) (.pointer (some ⟨blk, 0, none⟩)) :=
  NewV.rel (nk := .ptr) trivial blk

/-- The blocks of zeros come into the calculus. -/
theorem als_install {N : Nat} {K : (Nat → Value) → St → Prop} {s0 : St} {J0 : Nat → Plc} {w0 w : World} {a0 : Act} {S : Nat → Prop} {cv : Nat → Value} : ∀ (l : List Nat) (T : Nat → Prop) (vals : Nat → Value) (s : St) (J : Nat → Plc),
    Rel P G N L A s0 J0 w0 a0 S T vals s J w cv → alsD P L K l vals s → (∀ i ∈ l, S i ∧ T i ∧ i < L.length) → l.Nodup →
    ∃ vals' s' J', K vals' s' ∧ Rel P G N L A s0 J0 w0 a0 S (fun i => T i ∧ i ∉ l) vals' s' J' w cv ∧ ∀ j, j ∉ l → vals' j = vals j := by
  intro l
  induction l with
  | nil => intro T vals s J h hk _ _; exact ⟨vals, s, J, hk, by simpa using h, fun _ _ => rfl⟩
  | cons i r ih =>
    intro T vals s J h hk hl hnd
    obtain ⟨hir, hnd⟩ := List.nodup_cons.1 hnd
    obtain ⟨hSi, hTi, hil⟩ := hl i (by simp)
    obtain ⟨o, x, ob, blk, ho, hx, hy, hob, hR, hown, hge⟩ := h.recs i hSi hTi
    simp only [alsD, ho, hx, newW] at hk
    have hJ : ∀ b, b < s.next → putJ J s.next ⟨blk, 0, newExt x, 0⟩ b = J b := fun b hb => by simp [putJ, Nat.ne_of_lt hb]
    have hR1 : Rel P G N L A s0 J0 w0 a0 S (fun j => T j ∧ j ≠ i) (setV vals i (NewV.val .ptr s.next)) (s.alloc x) (putJ J s.next ⟨blk, 0, newExt x, 0⟩) w cv := by
      refine ⟨h.sim.install hob hown hR, Step.install h.sim.live h.step hge, h.init.mono (Nat.le_succ _) hJ, ?_, ?_, fun j k hjk hj hk tj tk => h.sep j k hjk hj hk tj.1 tk.1⟩
      · intro j hj ht
        by_cases hji : j = i
        · subst hji
          rw [setV_self, hy]
          exact nval_ptr_rel x blk
        · rw [setV_other _ (Ne.symm hji)]
          exact (h.rel j hj (fun t => ht ⟨t, hji⟩)).mono (Nat.le_succ _) hJ
      · rintro j hj ⟨tj, hji⟩
        obtain ⟨o', x', ob', blk', ho', hx', hy', hob', hR', hown', hge'⟩ := h.recs j hj tj
        refine ⟨o', x', ob', blk', ho', hx', hy', hob', hR'.mono (Nat.le_succ _) hJ, ?_, hge'⟩
        rintro k ⟨b, z, hz, hoz⟩
        simp only [St.alloc] at hz
        split at hz
        · rename_i hb
          subst hb
          simp only [putJ, if_true] at hoz
          have : blk = blk' := by cases z <;> first | exact hoz.1 | exact hoz
          have hne := h.sep i j (Ne.symm hji) hSi hj hTi tj
          rw [hy, hy', this] at hne
          exact hne rfl
        · have hbl := h.sim.live b z hz
          rw [hJ b hbl] at hoz
          exact hown' k ⟨b, z, hz, hoz⟩
    obtain ⟨vals', s', J', h1, h2, h3⟩ := ih _ _ _ _ hR1 hk (fun j hj => by
      obtain ⟨a, b, c⟩ := hl j (by simp [hj])
      exact ⟨a, ⟨b, fun e => hir (e ▸ hj)⟩, c⟩) hnd
    refine ⟨vals', s', J', h1, ?_, fun j hj => ?_⟩
    · have e : (fun j => (T j ∧ j ≠ i) ∧ j ∉ r) = (fun j => T j ∧ j ∉ i :: r) := by
        funext j; simp only [List.mem_cons, not_or, and_assoc]
      rw [← e]
      exact h2
    · simp only [List.mem_cons, not_or] at hj
      rw [h3 j hj.2, setV_other _ (Ne.symm hj.1)]

/-- What is owned by nobody stays as it is. -/
theorem Rec.step {s s1 : St} {J J1 : Nat → Plc} {w0 w w1 : World} {i : Nat} {y : Value} (h : Rec P L s J w0 w i y) (hs : Step s J w s1 J1 w1) : Rec P L s1 J1 w0 w1 i y := by
  obtain ⟨o, x, ob, blk, ho, hx, hy, hob, hR, hown, hge⟩ := h
  have hlt := (Array.getElem?_eq_some_iff.1 hob).1
  refine ⟨o, x, ob, blk, ho, hx, hy, ?_, hR.mono hs.le hs.ext, fun k => hs.free blk k hlt (hown k), hge⟩
  cases ob with
  | cells c e f =>
    obtain ⟨c', h1, h2, h3⟩ := hs.row blk c e f hob
    rw [h1]
    have : c' = c := Array.ext_getElem? fun k => h3 k (hown k)
    rw [this]
  | _ => exact hs.other blk _ hob (fun _ _ _ h => by cases h) hown

theorem Rel.opd {n N : Nat} (ok : Ok P L p n) (hG : 1000 ≤ G) {s0 s : St} {J0 J : Nat → Plc} {w0 w : World} {a0 a : Act} {S T : Nat → Prop} {vals : Nat → Value} {cv : Nat → Value}
    (hn : n = N) (R : Rel P G N L A s0 J0 w0 a0 S T vals s J w cv) (hf : Frm L S cv a0 a) (hcl : Closed L S) (hb : ∀ j, S j → j < L.length) {i : Nat} {o : Oper} (ho : L[i]? = some o) (hni : ¬ S i)
    (hr : ∀ e ∈ o.after, Region.binds .any e = true → S e.on) (hT : ∀ j ∈ srcs L i, ¬ T j) (x : Operand) : VR s.next J false (opdD L vals A i x) (a.eval x) := by
  have hlt := (List.getElem?_eq_some_iff.1 ho).1
  cases x with
  | tmp d =>
    simp only [opdD, Act.eval]
    split
    · rename_i hd
      have hd : d ∈ tmpsAt L i := by simpa using hd
      have hlater : ∀ k, S k → dstAt L k = some d → k < i := by
        intro k hk hkd
        rcases Nat.lt_trichotomy k i with h | h | h
        · exact h
        · subst h; exact absurd hk hni
        · exact absurd (ok.war k i d (hb k hk) h hkd hd S hcl hk) hni
      split
      · rename_i j hj
        obtain ⟨h1, h2, h3⟩ := lastB_some (show lastB _ i = some j from hj)
        have hjd : dstAt L j = some d := by simpa using h2
        have hSj : S j := (ok.raw i j d hlt h1 hjd hd).now hcl ho hr (by omega)
        have hdl : d < a.tmps.size := by rw [hf.sz, R.init.1, ← hn]; exact ok.dst j d hjd
        rw [hf.w d j hdl hSj hjd (fun k hk hkd => by
          have := hlater k hk hkd
          rcases Nat.lt_or_ge j k with hjk | hjk
          · have := h3 k hjk this
            simp [hkd] at this
          · exact hjk)]
        exact R.rel j hSj (hT j (mem_srcs_tmp hd hj))
      · rename_i hj
        have h3 := lastB_none (show lastB _ i = none from hj)
        rw [hf.o d (fun k hk hkd => by
          have := h3 k (hlater k hk hkd)
          simp [hkd] at this)]
        exact R.init.2 d
    · exact .dc
  | const v => exact opd_sim R.sim (a := a0) R.init (.const v) hG
  | global g => exact opd_sim R.sim (a := a0) R.init (.global g) hG
  | func f => exact opd_sim R.sim (a := a0) R.init (.func f) hG

theorem Rel.guard {n N : Nat} (ok : Ok P L p n) {s0 s : St} {J0 J : Nat → Plc} {w0 w : World} {a0 a : Act} {S T : Nat → Prop} {vals : Nat → Value} {cv : Nat → Value} {ops : Array Oper} (hops : ops.toList = L)
    (hn : n = N) (R : Rel P G N L A s0 J0 w0 a0 S T vals s J w cv) (hf : Frm L S cv a0 a) (hcl : Closed L S) {i : Nat} {o : Oper} (ho : L[i]? = some o)
    (hr : ∀ e ∈ o.after, Region.binds .any e = true → S e.on) (hT : ∀ j, isK .a L j = false → ¬ T j) {c : Bool} (hw : wantedD vals o.guard = some c) : Region.wanted o (yielded ops a.tmps) = c := by
  unfold Region.wanted
  cases hg : o.guard with
  | none => rw [hg] at hw; cases hw; rfl
  | some jb =>
    obtain ⟨j, b⟩ := jb
    obtain ⟨h1, h2, h3, h4, d, h5, h6⟩ := ok.grd i o j b ho hg
    have hSj : S j := h2.now hcl ho hr (by omega)
    have hv := R.rel j hSj (hT j h4)
    rw [hg] at hw
    simp only [wantedD, boolIs] at hw
    split at hw
    · rename_i b' hb'
      rw [hb'] at hv
      have hc := hv.bool_inv
      have hdl : d < a.tmps.size := by rw [hf.sz, R.init.1, ← hn]; exact ok.dst j d h5
      have hd := hf.w d j hdl hSj h5 (fun k _ hkd => by rw [h6 k hkd]; exact Nat.le_refl _)
      rw [hc] at hd
      have hoj : (ops[j]?).bind (·.dst) = some d := by rw [← h5, ← hops]; simp [dstAt]
      have hget : a.tmps[d]? = some (.bool b') := by
        rw [Array.getD_eq_getD_getElem?, Array.getElem?_eq_getElem hdl] at hd
        rw [Array.getElem?_eq_getElem hdl]
        exact congrArg some hd
      simp only [yielded, hoj, Option.bind_some, hget]
      cases hw
      cases b' <;> cases b <;> rfl
    · rename_i hb'
      rw [hb'] at hv
      have hc := hv.skip_inv
      have hdl : d < a.tmps.size := by rw [hf.sz, R.init.1, ← hn]; exact ok.dst j d h5
      have hd := hf.w d j hdl hSj h5 (fun k _ hkd => by rw [h6 k hkd]; exact Nat.le_refl _)
      rw [hc] at hd
      have hoj : (ops[j]?).bind (·.dst) = some d := by rw [← h5, ← hops]; simp [dstAt]
      have hget : a.tmps[d]? = some undef := by
        rw [Array.getD_eq_getD_getElem?, Array.getElem?_eq_getElem hdl] at hd
        rw [Array.getElem?_eq_getElem hdl]
        exact congrArg some hd
      simp only [yielded, hoj, Option.bind_some, hget, undef]
      cases hw
      cases b <;> rfl
    · cases hw

end Go.Zz
