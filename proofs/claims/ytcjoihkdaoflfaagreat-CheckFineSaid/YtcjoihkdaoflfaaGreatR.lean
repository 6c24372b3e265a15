/- What the calculus says of code is so on the machine. -/
import Derived.Test.YtcjoihkdaoflfaaGreatQ
set_option linter.all false
namespace Go.Zz
open Go

variable {P : Program} {G : Nat} {F : Fence} {C : CallT}

def unl (listed : Array Bool) (n : Nat) : Nat := (List.range n).countP fun i => !listed.getD i true

theorem countP_one {n i : Nat} {p q : Nat → Bool} (hi : i < n) (hp : p i = true) (hq : q i = false) (h : ∀ j, j ≠ i → q j = p j) : (List.range n).countP q + 1 = (List.range n).countP p := by
  have same : ∀ m, m ≤ i → (List.range m).countP q = (List.range m).countP p := by
    intro m hm
    apply List.countP_congr
    intro j hj
    rw [List.mem_range] at hj
    rw [h j (by omega)]
  induction n with
  | zero => omega
  | succ n ih =>
    rw [List.range_succ, List.countP_append, List.countP_append]
    by_cases hin : i = n
    · subst hin
      rw [same i (Nat.le_refl _)]
      simp [hp, hq]
    · have := ih (by omega)
      have : q n = p n := h n (Ne.symm hin)
      simp only [List.countP_singleton, this]
      omega

theorem draw_go {N : Nat} (hF : Wide F) (hC : Sound P G C) (hG : 1000 ≤ G) {ops : Array Oper} {p : Plan} {A : Fr} {K : Fr → St → Prop} {s0 : St} {J0 : Nat → Plc} {w0 : World} {a0 : Act} {Q : Exit → Act → World → Prop} (ok : Ok P ops.toList p N)
    (hQ : ∀ s J a w, ∀ A', K A' s → Sim G s J w → VRf N s.next J A' a.tmps → a.defers = [] → Step s0 J0 w0 s J w → Q .normal a w) :
    ∀ (fuel : Nat) (listed : Array Bool) (a : Act) (w : World), listed.size = ops.size → unl listed ops.size ≤ fuel →
      (∃ g vals s J cv, Stt P G N C ops.toList p A (fun vals s' => K (finD N ops.toList vals A ops.toList.length) s') s0 J0 w0 a0 (fun j => listed.getD j false = true) g vals s J cv a w) →
      wpAnyIn F 0 P .any ops Q fuel listed a w := by
  have fin : ∀ (listed : Array Bool) (a : Act) (w : World), listed.size = ops.size → Region.ready .any ops listed = [] →
      (∃ g vals s J cv, Stt P G N C ops.toList p A (fun vals s' => K (finD N ops.toList vals A ops.toList.length) s') s0 J0 w0 a0 (fun j => listed.getD j false = true) g vals s J cv a w) → Q .normal a w := by
    rintro listed a w hsz hrd ⟨g, vals, s, J, cv, h⟩
    have hall : ∀ j, j < ops.toList.length → listed.getD j false = true := by
      intro j
      induction j using Nat.strongRecOn with
      | _ j ih =>
        intro hj
        rw [Array.length_toList] at hj
        have ho : ops[j]? = some ops[j] := Array.getElem?_eq_getElem hj
        cases hl : listed.getD j false with
        | true => rfl
        | false =>
          have : j ∈ Region.ready .any ops listed := mem_ready.2 ⟨by
            rw [Array.getD_eq_getD_getElem?, Array.getElem?_eq_getElem (by omega)] at hl ⊢
            exact hl, ops[j], ho, fun e he hb => ?_⟩
          · rw [hrd] at this; cases this
          · have hlt := ok.back j _ (by simpa using ho) e he hb
            exact ih e.on hlt (by rw [Array.length_toList]; omega)
    obtain ⟨vals', s', J', h1, h2, h3, h4, h5⟩ := h.done ok rfl hall
    exact hQ s' J' a w _ h1 h2 h4 h5 h3
  intro fuel
  induction fuel with
  | zero =>
    intro listed a w hsz hu hst
    have hrd : Region.ready .any ops listed = [] := by
      apply List.eq_nil_iff_forall_not_mem.2
      intro i hi
      obtain ⟨h1, o, ho, _⟩ := mem_ready.1 hi
      have hlt := (Array.getElem?_eq_some_iff.1 ho).1
      have : unl listed ops.size = 0 := by omega
      unfold unl at this
      rw [List.countP_eq_zero] at this
      have := this i (List.mem_range.2 hlt)
      simp [h1] at this
    exact ⟨hrd, fin listed a w hsz hrd hst⟩
  | succ fuel ih =>
    intro listed a w hsz hu hst
    refine ⟨fun hrd => fin listed a w hsz hrd hst, fun i hi => ?_⟩
    obtain ⟨h1, o, ho, hr⟩ := mem_ready.1 hi
    have hlt := (Array.getElem?_eq_some_iff.1 ho).1
    obtain ⟨g, vals, s, J, cv, h⟩ := hst
    have hni : ¬ listed.getD i false = true := by
      rw [Array.getD_eq_getD_getElem?, Array.getElem?_eq_getElem (by omega)] at h1 ⊢
      simp at h1
      simp [h1]
    refine wpOpIn_mono (fun a' w' h' => ?_) (h.one hF hC hG rfl ok rfl (i := i) (o := o) (by simpa using ho) hni hr)
    refine ih _ a' w' (by simpa using hsz) ?_ ?_
    · have : unl (listed.setIfInBounds i true) ops.size + 1 = unl listed ops.size := countP_one hlt (by simp [h1]) (by simp [hsz, hlt]) (fun j hj => by
        simp [Array.getElem?_setIfInBounds_ne (Ne.symm hj)])
      omega
    · have e : (fun j => (listed.setIfInBounds i true).getD j false = true) = (fun k => listed.getD k false = true ∨ k = i) := by
        funext j
        by_cases hj : j = i
        · subst hj; simp [hsz, hlt]
        · simp [Array.getElem?_setIfInBounds_ne (Ne.symm hj), hj]
      rw [e]
      exact h'

/-- A REGION THAT LEAVES ITS ORDER OPEN. -/
theorem draw_sim {N : Nat} {p : Plan} (hF : Wide F) (hC : Sound P G C) (hG : 1000 ≤ G) (hm : P.follows .mixedOrders = true) {id : Nat} {ops : Array Oper} {A : Fr} {K : Fr → St → Prop} {s0 s : St} {J0 J : Nat → Plc} {w0 w : World} {a : Act} {Q : Exit → Act → World → Prop}
    (h : evDraw P C N p ops.toList K A s) (hS : Sim G s J w) (hA : VRf N s.next J A a.tmps) (hd : a.defers = []) (h0 : Step s0 J0 w0 s J w)
    (hQ : ∀ s J a w, ∀ A', K A' s → Sim G s J w → VRf N s.next J A' a.tmps → a.defers = [] → Step s0 J0 w0 s J w → Q .normal a w) : (Code.region id ops true).wpIn F 0 P Q a w := by
  unfold evDraw at h
  split at h
  · rename_i hok
    have ok := okPlan_ok hok
    refine wpIn_region_any hm (draw_go (A := A) hF hC hG (s0 := s) (J0 := J) (w0 := w.drew) (a0 := a) ok (fun s1 J1 a1 w1 A' k1 k2 k3 k4 k5 => hQ s1 J1 a1 w1 A' k1 k2 k3 k4 ((h0.trans (Step.drew s J w)).trans k5)) _ _ _ _ (by simp) (by
      unfold unl
      refine Nat.le_trans List.countP_le_length ?_
      simp) ?_)
    have hno : ∀ j, (Array.replicate ops.size false).getD j false = false := fun j => by
      by_cases hj : j < ops.size
      · simp [hj]
      · simp [hj]
    obtain ⟨vals, e2, e3, e4, e5⟩ := enter ok ⟨fun i _ _ _ hi => by omega, fun i _ hi => by omega⟩ h
    have non : ∀ {j : Nat}, ¬ (Array.replicate ops.size false).getD j false = true := fun {j} hj => by rw [hno] at hj; cases hj
    refine ⟨0, vals, s, J, fun _ => undef, Nat.zero_le _, fun j hj => absurd hj non, fun i o _ hi => absurd hi non,
      ⟨hS.drew, .refl _ _ _, hA, fun i hi => absurd hi non, fun i hi => absurd hi non, fun i j _ hi => absurd hi non⟩,
      ⟨rfl, hd, fun d j _ hj => absurd hj non, fun _ _ => rfl⟩, fun k _ => ⟨fun hk => absurd hk non, fun hk => by omega⟩, e3, e4, e2⟩
  · exact h.elim

/-! ## Regions whose order is fixed -/

theorem guard_ord {N n : Nat} {J : Nat → Plc} {ops : Array Oper} {A : Fr} {a : Act} (hA : VRf N n J A a.tmps) {g : Option (Nat × Bool)} {o : Oper} (hg : o.guard = g) {c : Bool} (h : wantedA ops A g = some c) : Region.wanted o (yielded ops a.tmps) = c := by
  unfold Region.wanted
  rw [hg]
  cases g with
  | none => cases h; rfl
  | some jb =>
    obtain ⟨j, b⟩ := jb
    simp only [wantedA] at h
    split at h
    · rename_i d hd
      unfold boolIs at h
      split at h <;> (try cases h)
      · rename_i b' hb'
        have hv := hA.2 d
        rw [hb'] at hv
        have hc := hv.bool_inv
        have hget : a.tmps[d]? = some (.bool b') := by
          rw [Array.getD_eq_getD_getElem?] at hc
          cases hx : a.tmps[d]? with
          | none => rw [hx] at hc; cases hc
          | some y => rw [hx] at hc; exact congrArg some hc
        simp only [yielded, hd, Option.bind_some, hget]
        cases b' <;> cases b <;> rfl
      · rename_i hb'
        have hv := hA.2 d
        rw [hb'] at hv
        have hc := hv.skip_inv
        simp only [yielded, hd, Option.bind_some]
        rw [Array.getD_eq_getD_getElem?] at hc
        cases hx : a.tmps[d]? with
        | none => cases b <;> rfl
        | some y => rw [hx] at hc; simp only [Option.getD_some] at hc; subst hc; simp only [undef]; cases b <;> rfl
    · cases h

theorem ops_sim {N : Nat} (hF : Wide F) (hC : Sound P G C) (hG : 1000 ≤ G) {ops : Array Oper} {K : Fr → St → Prop} {s0 : St} {J0 : Nat → Plc} {w0 : World} {Q : Exit → Act → World → Prop}
    (hQ : ∀ s J a w, ∀ A', K A' s → Sim G s J w → VRf N s.next J A' a.tmps → a.defers = [] → Step s0 J0 w0 s J w → Q .normal a w) :
    ∀ (l : List Oper) (is : List Nat) (A : Fr) (s : St) (J : Nat → Plc) (a : Act) (w : World), is.map (fun i => ops[i]?) = l.map some → evOps P C N ops K l A s → Sim G s J w → VRf N s.next J A a.tmps → a.defers = [] → Step s0 J0 w0 s J w →
      wpOpsIn F 0 P ops Q is a w := by
  intro l
  induction l with
  | nil =>
    intro is A s J a w his h hS hA hd h0
    cases is with
    | nil => exact hQ s J a w A h hS hA hd h0
    | cons i is => simp at his
  | cons o l ih =>
    intro is A s J a w his h hS hA hd h0
    cases is with
    | nil => simp at his
    | cons i is =>
      simp only [List.map_cons, List.cons.injEq] at his
      obtain ⟨ho, his⟩ := his
      simp only [wpOpsIn, ho]
      simp only [evOps] at h
      rw [stepW_eq (fun e => by rw [e]; rfl)] at h
      unfold gW at h
      split at h
      · rename_i hw
        rw [guard_ord hA rfl hw]
        simp only [if_true]
        refine Oper.wpIn_mono ?_ (op_sim hF hC hS hA hd h0 (fun x => opd_sim hS hA x hG) h)
        rintro a' w' ⟨A', s', J', hk, hS', hA', hd', h0'⟩
        exact ih is A' s' J' a' w' his hk hS' hA' hd' h0'
      · rename_i hw
        rw [guard_ord hA rfl hw]
        simp only [Bool.false_eq_true, if_false]
        refine ⟨about_wide hF o a, ih is _ s J _ w his h hS (hA.put o.dst .skip) ?_ h0⟩
        cases o.dst <;> exact hd
      · exact h.elim

/-! ## Code -/

theorem wpIn_loop_lfp {c : Code} {Q : Exit → Act → World → Prop} {n : Nat} {a : Act} {w : World} (h : ∀ I : Act → World → Prop, (∀ a w, c.wpIn F n P (Exit.then I Q) a w → I a w) → I a w) : (Code.loop c).wpIn F n P Q a w := by
  intro b k cs hro hb hr
  have key := h (fun a w => ∃ e a' w', Q e a' w' ∧ ArrivesIn (Machine.fenced P F) P (lone (b.atR a (.code c :: .inLoop c :: k)) cs w) b k cs e a' w') (by
    intro a w hc
    obtain ⟨e, a₁, w₁, hq, harr⟩ := hc b (.inLoop c :: k) cs hro hb hr
    cases e with
    | normal =>
      obtain ⟨e₂, a₂, w₂, hq₂, harr₂⟩ := hq
      exact ⟨e₂, a₂, w₂, hq₂, .of_steps (StepsIn.trans harr (.one (fenced_calm hb hr rfl) stepR_inLoop)) harr₂⟩
    | exit id => exact ⟨_, a₁, w₁, hq, .pass (x := .inLoop c) rfl (fun _ _ => .inl (by simp)) harr⟩
    | goto l => exact ⟨_, a₁, w₁, hq, .pass (x := .inLoop c) rfl (fun _ _ => .inl (by simp)) harr⟩
    | ret => exact ⟨_, a₁, w₁, hq, .pass (x := .inLoop c) rfl (fun _ _ => .inl (by simp)) harr⟩
    | panic ch => exact ⟨_, a₁, w₁, hq, .pass (x := .inLoop c) rfl (fun _ _ => .inl (by simp)) harr⟩
    | outgrown => exact ⟨_, a₁, w₁, hq, .pass (x := .inLoop c) rfl (fun _ _ => .inl (by simp)) harr⟩)
  obtain ⟨e, a', w', hq, harr⟩ := key
  exact ⟨e, a', w', hq, .of_steps (.one (fenced_calm hb hr rfl) stepR_loop) harr⟩

def exOf : Ex → Exit
  | .normal => .normal
  | .exit id => .exit id
  | .ret => .ret

theorem VRf.wipe {N n : Nat} {J : Nat → Plc} {t : Array Value} (l : List Nat) {A : Fr} (h : VRf N n J A t) : VRf N n J (wipe l A) t := by
  refine ⟨h.1, fun i => ?_⟩
  unfold Zz.wipe
  split
  · exact .dc
  · exact h.2 i

theorem VRf.list {N n : Nat} {J : Nat → Plc} {t : Array Value} {A : Fr} (h : VRf N n J A t) : VRf N n J (ofL (toL N A)) t := by
  refine ⟨h.1, fun i => ?_⟩
  unfold ofL toL
  by_cases hi : i < N
  · simpa [List.getD_eq_getElem?_getD, hi] using h.2 i
  · simp only [List.getD_eq_getElem?_getD]
    rw [List.getElem?_eq_none (by simp; omega)]
    exact .dc

theorem stepR_scope {P : Program} {b : Frame} {a : Act} {k : List Item} {cs : List Frame} {w : World} {c : Code} : step P (lone (b.atR a (.code (.scope c) :: k)) cs w) = .next (lone (b.atR a (.code c :: .inScope c :: k)) cs w) :=
  step_lone_go (by simp [stepG, stepG.exec, Frame.atR])
theorem stepR_inScope {P : Program} {b : Frame} {a : Act} {k : List Item} {cs : List Frame} {w : World} {c : Code} : step P (lone (b.atR a (.inScope c :: k)) cs w) = .next (lone (b.atR a k) cs w) :=
  step_lone_go (by simp [stepG, stepG.exec, Frame.atR])
/-- A scope through which the run goes without a goto. -/
theorem wpIn_scope {F : Fence} {n : Nat} {P : Program} {Q : Exit → Act → World → Prop} {a : Act} {w : World} {c : Code} (h : c.wpIn F n P (fun e a w => (∀ l, e ≠ .goto l) ∧ Q e a w) a w) : (Code.scope c).wpIn F n P Q a w := by
  intro b k cs hro hb hr
  have h0 : (lone (b.atR a (.code (.scope c) :: k)) cs w).fenced P F := fenced_calm hb hr rfl
  obtain ⟨e, a₁, w₁, hq, harr⟩ := h b (.inScope c :: k) cs hro hb hr
  cases e with
  | normal => exact ⟨.normal, a₁, w₁, hq.2, .head h0 stepR_scope (StepsIn.trans harr (.one (fenced_calm hb hr rfl) stepR_inScope))⟩
  | exit id =>
    have hx : exitTo id (.inScope c :: k) = exitTo id k := by simp [exitTo]
    exact ⟨.exit id, a₁, w₁, hq.2, fun k' hk => .head h0 stepR_scope (harr.1 k' (by rw [hx]; exact hk)),
      fun hr' hk => let ⟨k₁, h1, h2⟩ := harr.2 hr' (by rw [hx]; exact hk); ⟨k₁, h1, .head h0 stepR_scope h2⟩⟩
  | goto l => exact absurd rfl (hq.1 l)
  | ret => exact ⟨_, a₁, w₁, hq.2, .of_steps (.one h0 stepR_scope) harr⟩
  | panic ch => exact ⟨_, a₁, w₁, hq.2, .of_steps (.one h0 stepR_scope) harr⟩
  | outgrown => exact ⟨_, a₁, w₁, hq.2, .of_steps (.one h0 stepR_scope) harr⟩

/-- CODE. -/
theorem code_sim (hF : Wide F) (hC : Sound P G C) (hG : 1000 ≤ G) (hm : P.follows .mixedOrders = true) {H : Hint} {s0 : St} {J0 : Nat → Plc} {w0 : World} (c : Code) :
    ∀ (cur : Nat) (K : CPost) (A : Fr) (s : St) (J : Nat → Plc) (a : Act) (w : World) (Q : Exit → Act → World → Prop), evC P C H c cur K A s → Sim G s J w → VRf H.N s.next J A a.tmps → a.defers = [] → Step s0 J0 w0 s J w →
      (∀ ex A' s J a w, K ex A' s → Sim G s J w → VRf H.N s.next J A' a.tmps → a.defers = [] → Step s0 J0 w0 s J w → Q (exOf ex) a w) → c.wpIn F 0 P Q a w := by
  induction c with
  | skip => intro cur K A s J a w Q h hS hA hd h0 hQ; exact wpIn_skip (hQ .normal A s J a w h hS hA hd h0)
  | label l => intro cur K A s J a w Q h hS hA hd h0 hQ; exact wpIn_label (hQ .normal A s J a w h hS hA hd h0)
  | exit id => intro cur K A s J a w Q h hS hA hd h0 hQ; exact wpIn_exit (hQ (.exit id) A s J a w h hS hA hd h0)
  | ret => intro cur K A s J a w Q h hS hA hd h0 hQ; exact wpIn_ret (hQ .ret A s J a w h hS hA hd h0)
  | region id ops draw =>
    intro cur K A s J a w Q h hS hA hd h0 hQ
    cases draw with
    | true => exact draw_sim hF hC hG hm h hS hA hd h0 (fun s J a w A' k1 k2 k3 k4 k5 => hQ .normal A' s J a w k1 k2 k3 k4 k5)
    | false =>
      refine wpIn_region (ops_sim hF hC hG (fun s J a w A' k1 k2 k3 k4 k5 => hQ .normal A' s J a w k1 k2 k3 k4 k5) ops.toList _ A s J a w ?_ h hS hA hd h0)
      apply List.ext_getElem?
      intro i
      by_cases hi : i < ops.size
      · simp [hi]
      · simp [hi]
  | seq x y ihx ihy =>
    intro cur K A s J a w Q h hS hA hd h0 hQ
    refine wpIn_seq (ihx cur _ A s J a w _ h hS hA hd h0 ?_)
    intro ex A' s' J' a' w' hk hS' hA' hd' h0'
    cases ex with
    | normal => exact ihy cur K A' s' J' a' w' Q hk hS' hA' hd' h0' hQ
    | exit id => exact hQ (.exit id) A' s' J' a' w' hk hS' hA' hd' h0'
    | ret => exact hQ .ret A' s' J' a' w' hk hS' hA' hd' h0'
  | cond c x y ihx ihy =>
    intro cur K A s J a w Q h hS hA hd h0 hQ
    simp only [evC, condW] at h
    have hv := opd_sim hS hA c hG
    split at h
    · rename_i hc
      rw [hc] at hv
      exact wpIn_cond_true hv.bool_inv (ihx cur K A s J a w Q h hS hA hd h0 hQ)
    · rename_i hc
      rw [hc] at hv
      exact wpIn_cond_false hv.bool_inv (ihy cur K A s J a w Q h hS hA hd h0 hQ)
    · exact h.elim
  | block id c ih =>
    intro cur K A s J a w Q h hS hA hd h0 hQ
    refine wpIn_block (ih id _ A s J a w _ h hS hA hd h0 ?_)
    intro ex A' s' J' a' w' hk hS' hA' hd' h0'
    cases ex with
    | normal => exact hQ .normal A' s' J' a' w' hk hS' hA' hd' h0'
    | ret => exact hQ .ret A' s' J' a' w' hk hS' hA' hd' h0'
    | exit j =>
      simp only [exOf, Exit.inBlock]
      simp only [kBlock] at hk
      split at hk
      · rename_i hj
        rw [if_pos (Nat.eq_of_beq_eq_true hj)]
        exact hQ .normal A' s' J' a' w' hk hS' hA' hd' h0'
      · rename_i hj
        rw [if_neg (Nat.ne_of_beq_eq_false hj)]
        exact hQ (.exit j) A' s' J' a' w' hk hS' hA' hd' h0'
  | loop c ih =>
    intro cur K A s J a w Q h hS hA hd h0 hQ
    refine wpIn_loop_lfp fun I hI => ?_
    simp only [evC] at h
    refine h (fun l s => ∀ J a w, Sim G s J w → VRf H.N s.next J (ofL l) a.tmps → a.defers = [] → Step s0 J0 w0 s J w → I a w) ?_ J a w hS (hA.wipe _).list hd h0
    intro A1 s1 h1 J1 a1 w1 hS1 hA1 hd1 h01
    refine hI a1 w1 (ih cur _ (ofL A1) s1 J1 a1 w1 _ h1 hS1 hA1 hd1 h01 ?_)
    intro ex A' s' J' a' w' hk hS' hA' hd' h0'
    cases ex with
    | normal => exact hk J' a' w' hS' (hA'.wipe _).list hd' h0'
    | exit id => exact hQ (.exit id) _ s' J' a' w' hk hS' (hA'.wipe _).list hd' h0'
    | ret => exact hQ .ret _ s' J' a' w' hk hS' (hA'.wipe _).list hd' h0'
  | scope c ih =>
    intro cur K A s J a w Q h hS hA hd h0 hQ
    refine wpIn_scope (ih cur K A s J a w _ h hS hA hd h0 ?_)
    intro ex A' s' J' a' w' hk hS' hA' hd' h0'
    exact ⟨fun l => by cases ex <;> simp [exOf], hQ ex A' s' J' a' w' hk hS' hA' hd' h0'⟩
  | _ => intro cur K A s J a w Q h; exact h.elim

end Go.Zz
