/- Calls: what the calculus says of them is so; and how a call is entered in it. -/
import Derived.Test.YtcjoihkdaoflfaaGreatR
set_option linter.all false
namespace Go.Zz
open Go

variable {P : Program} {G : Nat} {C C' : CallT} {wips : FuncId → Hint} {laid : Laid}

/-! ## The calculus is monotone -/

abbrev LeC (C C' : CallT) : Prop := ∀ f args Q s, C f args Q s → C' f args Q s

theorem ite_mono {p : Prop} [Decidable p] {a b a' b' : Prop} (h : if p then a else b) (ha : a → a') (hb : b → b') : if p then a' else b' := by
  split at h <;> rename_i hp
  · rw [if_pos hp]; exact ha h
  · rw [if_neg hp]; exact hb h

theorem bindO_mono {o : Option Value} {k k' : Post} {s : St} (hk : ∀ v s, k v s → k' v s) (h : bindO o k s) : bindO o k' s := by
  cases o with
  | none => exact h
  | some v => exact hk _ _ h

theorem storeW_mono {n : Option Nat} {p v : Value} {k k' : Post} {s : St} (hk : ∀ v s, k v s → k' v s) (h : storeW n p v k s) : storeW n p v k' s := by
  unfold storeW at *
  split at h <;> (try exact h.elim)
  (try simp only)
  split at h <;> (try exact h.elim)
  rename_i hb
  (try rw [hb])
  exact ⟨h.1, h.2.1, h.2.2.1, hk _ _ h.2.2.2⟩

theorem mapPutW_mono {m : Option (TypeDesc × Value)} {x key v : Value} {k k' : Post} {s : St} (hk : ∀ v s, k v s → k' v s) (h : mapPutW m x key v k s) : mapPutW m x key v k' s := by
  unfold mapPutW at *
  split at h <;> (try exact h.elim)
  (try simp only)
  split at h <;> (try exact h.elim)
  rename_i hb
  (try rw [hb])
  (try simp only)
  split at h <;> (try exact h.elim)
  · rename_i hf; (try rw [hf]); exact hk _ _ h
  · rename_i hf; (try rw [hf]); exact hk _ _ h

theorem delW_mono {m : Option (TypeDesc × Value)} {x key : Value} {k k' : Post} {s : St} (hk : ∀ v s, k v s → k' v s) (h : delW m x key k s) : delW m x key k' s := by
  unfold delW at *
  split at h <;> (try exact h.elim)
  · exact hk _ _ h
  (try simp only)
  split at h <;> (try exact h.elim)
  rename_i hb
  (try rw [hb])
  (try simp only)
  split at h <;> (try exact h.elim)
  · rename_i hf; (try rw [hf]); exact hk _ _ h
  · rename_i hf; (try rw [hf]); exact hk _ _ h

theorem appW_mono {z b : Nat} {x : Value} {news : Option (Nat × List Value)} {k k' : Post} {s : St} (hk : ∀ v s, k v s → k' v s) (h : appW z b x news k s) : appW z b x news k' s := by
  unfold appW at *
  split at h <;> (try exact h.elim)
  · exact ite_mono h (hk _ _) (fun h => ⟨h.1, h.2.1, hk _ _ h.2.2⟩)
  · refine ite_mono h (hk _ _) (fun h => ⟨h.1, h.2.1, ?_⟩)
    have h := h.2.2
    split at h <;> (try exact h.elim)
    rename_i hb
    (try rw [hb])
    refine ⟨h.1, ite_mono h.2 (fun h => ite_mono h (hk _ _) (fun h => ⟨hk _ _ h.1, fun ht => hk _ _ (h.2 ht)⟩)) (fun h => ⟨h.1, ite_mono h.2 (fun h => ⟨h.1, hk _ _ h.2⟩) (hk _ _)⟩)⟩

theorem copyW_mono {z : Nat} {x y : Value} {k k' : Post} {s : St} (hk : ∀ v s, k v s → k' v s) (h : copyW z x y k s) : copyW z x y k' s := by
  unfold copyW at *
  split at h <;> rename_i heq <;> (try exact h.elim)
  · (try rw [heq]); exact hk _ _ h
  · (try rw [heq])
    refine ite_mono h (hk _ _) (fun h => ?_)
    split at h <;> (try exact h.elim)
    rename_i hb
    (try rw [hb])
    exact ⟨h.1, hk _ _ h.2⟩

theorem clearW_mono {t : TypeId} {x : Value} {k k' : Post} {s : St} (hk : ∀ v s, k v s → k' v s) (h : clearW P t x k s) : clearW P t x k' s := by
  unfold clearW at *
  split at h <;> (try exact h.elim)
  · exact ⟨h.1, hk _ _ h.2⟩
  · refine ⟨h.1, ?_⟩
    have h := h.2
    split at h <;> (try exact h.elim)
    rename_i hb
    (try rw [hb]); exact hk _ _ h
  · exact ⟨h.1, hk _ _ h.2⟩
  · split at h <;> (try exact h.elim)
    rename_i ht
    (try rw [ht])
    refine ite_mono h (hk _ _) (fun h => ?_)
    split at h <;> (try exact h.elim)
    rename_i hb
    (try rw [hb]); exact ⟨h.1, hk _ _ h.2⟩

theorem capW_mono {t : TypeId} {x : Value} {k k' : Post} {s : St} (hk : ∀ v s, k v s → k' v s) (h : capW P t x k s) : capW P t x k' s := by
  unfold capW at *
  split at h <;> rename_i ht <;> (try exact h.elim)
  · (try rw [ht]); exact hk _ _ h
  · (try rw [ht])
    refine ite_mono h (hk _ _) (fun h => ⟨h.1, ?_⟩)
    have h := h.2
    split at h <;> (try exact h.elim)
    rename_i hb
    (try rw [hb])
    exact fun n a b c d => hk _ _ (h n a b c d)

theorem callF_mono (hC : LeC C C') (hM : MonoC C') {f : Value} {args : List Value} {k k' : Post} {s : St} (hk : ∀ v s, k v s → k' v s) (h : callF P C f args k s) : callF P C' f args k' s := by
  unfold callF at *
  split at h <;> (try exact h.elim)
  refine ⟨h.1, ?_⟩
  have h := h.2
  unfold callG at *
  split at h
  · exact hM _ _ _ _ _ hk (hC _ _ _ _ h)
  · unfold ovlW at *
    split at h <;> (try exact h.elim)
    split at h
    · refine ite_mono h (hk _ _) (fun h => ite_mono h (hk _ _) (fun h => ?_))
      split at h <;> (try exact h.elim)
      exact ⟨h.1, h.2.1, hk _ _ h.2.2⟩
    · exact hk _ _ h

theorem callI_mono (hC : LeC C C') (hM : MonoC C') {r : Value} {name : String} {args : List Value} {k k' : Post} {s : St} (hk : ∀ v s, k v s → k' v s) (h : callI P C r name args k s) : callI P C' r name args k' s := by
  unfold callI at *
  split at h <;> (try exact h.elim)
  (try simp only)
  split at h <;> (try exact h.elim)
  rename_i hg
  (try rw [hg])
  exact ⟨h.1, hM _ _ _ _ _ hk (hC _ _ _ _ h.2)⟩

theorem callW_mono (hC : LeC C C') (hM : MonoC C') {c : Call} {ρ : Operand → Value} {k k' : Post} {s : St} (hk : ∀ v s, k v s → k' v s) (h : callW P C c ρ k s) : callW P C' c ρ k' s := by
  unfold callW at *
  split at h
  · split at h <;> (try exact h.elim)
    · unfold apdW at *
      split at h <;> (try exact h.elim)
      exact appW_mono hk h
    · unfold cpyW at *
      split at h <;> (try exact h.elim)
      exact copyW_mono hk h
    · exact delW_mono hk h
    · exact clearW_mono hk h
    · exact capW_mono hk h
  · exact callF_mono hC hM hk h
  · exact callI_mono hC hM hk h

theorem newW_mono {o : Option (AObj × NewV)} {k k' : Post} {s : St} (hk : ∀ v s, k v s → k' v s) (h : newW o k s) : newW o k' s := by
  unfold newW at *
  split at h <;> (try exact h.elim)
  exact hk _ _ h

theorem opW_mono (hC : LeC C C') (hM : MonoC C') {op : Op} {ρ : Operand → Value} {k k' : Post} {s : St} (hk : ∀ v s, k v s → k' v s) (h : opW P C op ρ k s) : opW P C' op ρ k' s := by
  unfold opW at *
  split at h
  · exact bindO_mono hk h
  · exact bindO_mono hk h
  · exact newW_mono hk h
  · unfold effW at *
    split at h <;> (try exact h.elim)
    · exact storeW_mono hk h
    · exact mapPutW_mono hk h
    · exact mapPutW_mono hk h
    · exact callW_mono hC hM hk h

theorem gW_mono {w : Option Bool} {X X' : Post → St → Prop} {k k' : Post} {s : St} (hX : ∀ s, X k s → X' k' s) (hk : ∀ v s, k v s → k' v s) (h : gW w X k s) : gW w X' k' s := by
  unfold gW at *
  split at h <;> (try exact h.elim)
  · exact hX _ h
  · exact hk _ _ h

theorem stepW_mono {g : Option (Nat × Bool)} {w : Option Bool} {X X' : Post → St → Prop} {k k' : Post} {s : St} (hX : ∀ s, X k s → X' k' s) (hk : ∀ v s, k v s → k' v s) (h : stepW g w X k s) : stepW g w X' k' s := by
  cases g with
  | none => exact hX _ h
  | some _ => exact gW_mono hX hk h

theorem optW_mono {o : Option Value} {k k' : Value → Prop} (hk : ∀ v, k v → k' v) (h : optW o k) : optW o k' := by
  unfold optW at *
  split at h <;> (try exact h.elim)
  exact hk _ h

theorem chkW_mono {w : Option Bool} {p q q' : Prop} (hq : q → q') (h : chkW w p q) : chkW w p q' := by
  unfold chkW at *
  split at h <;> (try exact h.elim)
  · exact ⟨h.1, hq h.2⟩
  · exact hq h

theorem condW_mono {v : Value} {x x' y y' : Prop} (hx : x → x') (hy : y → y') (h : condW v x y) : condW v x' y' := by
  unfold condW at *
  split at h <;> (try exact h.elim)
  · exact hx h
  · exact hy h

theorem evOps_mono {N : Nat} (hC : LeC C C') (hM : MonoC C') {ops : Array Oper} {K K' : Fr → St → Prop} (hK : ∀ A s, K A s → K' A s) : ∀ (l : List Oper) (A : Fr) (s : St), evOps P C N ops K l A s → evOps P C' N ops K' l A s
  | [], _, _, h => hK _ _ h
  | o :: r, A, s, h => stepW_mono (fun s h => opW_mono hC hM (fun v s' h => evOps_mono hC hM hK r _ _ h) h) (fun v s' h => evOps_mono hC hM hK r _ _ h) h

theorem chksD_mono {L : List Oper} {A : Fr} {K K' : Prop} {vals : Nat → Value} {s : St} (hK : K → K') : ∀ (l : List Nat), chksD P L A K vals s l → chksD P L A K' vals s l
  | [], h => hK h
  | i :: r, h => by
    simp only [chksD] at *
    split at h <;> (try exact h.elim)
    exact chkW_mono (chksD_mono hK r) h

theorem runsD_mono {L : List Oper} {A : Fr} {K K' : (Nat → Value) → Prop} {s : St} (hK : ∀ v, K v → K' v) : ∀ (l : List Nat) (vals : Nat → Value), runsD P L A K s l vals → runsD P L A K' s l vals
  | [], _, h => hK _ h
  | i :: r, vals, h => by
    simp only [runsD] at *
    split at h <;> (try exact h.elim)
    exact optW_mono (fun v h => runsD_mono hK r _ h) h

theorem alsD_mono {L : List Oper} {K K' : (Nat → Value) → St → Prop} (hK : ∀ v s, K v s → K' v s) : ∀ (l : List Nat) (vals : Nat → Value) (s : St), alsD P L K l vals s → alsD P L K' l vals s
  | [], _, _, h => hK _ _ h
  | i :: r, vals, s, h => by
    simp only [alsD] at *
    split at h <;> (try exact h.elim)
    exact newW_mono (fun v s h => alsD_mono hK r _ _ h) h

theorem evGaps_mono (hC : LeC C C') (hM : MonoC C') {L : List Oper} {p : Plan} {A : Fr} {K K' : (Nat → Value) → St → Prop} (hK : ∀ v s, K v s → K' v s) : ∀ (l : List Nat) (g : Nat) (vals : Nat → Value) (s : St), evGaps P C L p A K l g vals s → evGaps P C' L p A K' l g vals s
  | [], g, vals, s, h => chksD_mono (runsD_mono (fun v => alsD_mono hK _ v s) _ _) _ h
  | e :: es, g, vals, s, h => chksD_mono (runsD_mono (fun v => alsD_mono (fun vals s h => by
      split at h <;> (try exact h.elim)
      exact stepW_mono (fun s h => opW_mono hC hM (fun v s' h => evGaps_mono hC hM hK es _ _ _ h) h) (fun v s' h => evGaps_mono hC hM hK es _ _ _ h) h) _ v s) _ _) _ h

abbrev LeK (K K' : CPost) : Prop := ∀ ex A s, K ex A s → K' ex A s

theorem kSeq_mono {k k' : Fr → St → Prop} {K K' : CPost} (hk : ∀ A s, k A s → k' A s) (hK : LeK K K') : LeK (kSeq k K) (kSeq k' K')
  | .normal, _, _, h => hk _ _ h
  | .exit _, _, _, h => hK _ _ _ h
  | .ret, _, _, h => hK _ _ _ h
theorem kBlock_mono {id : Nat} {K K' : CPost} (hK : LeK K K') : LeK (kBlock id K) (kBlock id K')
  | .normal, _, _, h => hK _ _ _ h
  | .exit j, _, _, h => by
    simp only [kBlock] at *
    split at h <;> exact hK _ _ _ h
  | .ret, _, _, h => hK _ _ _ h
theorem kLoop_mono {H : Hint} {cur : Nat} {I : List Value → St → Prop} {K K' : CPost} (hK : LeK K K') : LeK (kLoop H cur I K) (kLoop H cur I K')
  | .normal, _, _, h => h
  | .exit _, _, _, h => hK _ _ _ h
  | .ret, _, _, h => hK _ _ _ h
theorem kEnd_mono {Q Q' : Post} {s : St} {v : Option Value} {s' : St} (hQ : ∀ v s, Q v s → Q' v s) (h : kEnd Q s v s') : kEnd Q' s v s' := by
  cases v with
  | none => exact h
  | some v => exact h.imp (hQ _ _) fun h => ⟨h.1, h.2.1, hQ _ _ h.2.2⟩
theorem kBody_mono {fn : Func} {Q Q' : Post} {s : St} (hQ : ∀ v s, Q v s → Q' v s) : LeK (kBody P fn Q s) (kBody P fn Q' s)
  | .normal, _, _, h => kEnd_mono hQ h
  | .exit _, _, _, h => h
  | .ret, _, _, h => kEnd_mono hQ h

theorem evC_mono (hC : LeC C C') (hM : MonoC C') {H : Hint} (c : Code) : ∀ (cur : Nat) (K K' : CPost) (A : Fr) (s : St), LeK K K' → evC P C H c cur K A s → evC P C' H c cur K' A s := by
  induction c with
  | skip => intro cur K K' A s hK h; exact hK _ _ _ h
  | label l => intro cur K K' A s hK h; exact hK _ _ _ h
  | exit id => intro cur K K' A s hK h; exact hK _ _ _ h
  | ret => intro cur K K' A s hK h; exact hK _ _ _ h
  | region id ops draw =>
    intro cur K K' A s hK h
    cases draw with
    | true =>
      simp only [evC, evDraw] at *
      split at h <;> (try exact h.elim)
      exact evGaps_mono hC hM (fun v s => hK _ _ _) _ _ _ _ h
    | false => exact evOps_mono hC hM (hK _) _ _ _ h
  | seq x y ihx ihy => intro cur K K' A s hK h; exact ihx cur _ _ A s (kSeq_mono (fun A s => ihy cur _ _ A s hK) hK) h
  | cond c x y ihx ihy => intro cur K K' A s hK h; exact condW_mono (ihx cur _ _ A s hK) (ihy cur _ _ A s hK) h
  | block id c ih => intro cur K K' A s hK h; exact ih id _ _ A s (kBlock_mono hK) h
  | loop c ih =>
    intro cur K K' A s hK h
    simp only [evC] at *
    intro I hI
    exact h I fun l s h' => hI l s (ih cur _ _ _ s (kLoop_mono hK) h')
  | scope c ih => intro cur K K' A s hK h; exact ih cur _ _ A s hK h
  | _ => intro cur K K' A s hK h; exact h.elim

theorem bodyW_mono (hC : LeC C C') (hM : MonoC C') {f : FuncId} {args : List Value} {Q Q' : Post} {s : St} (hQ : ∀ v s, Q v s → Q' v s) (h : bodyW P C wips f args Q s) : bodyW P C' wips f args Q' s := by
  unfold bodyW at *
  split at h <;> (try exact h.elim)
  split at h <;> (try exact h.elim)
  exact evC_mono hC hM _ _ _ _ _ _ (kBody_mono hQ) h

theorem calls_monoC : MonoC (calls P wips laid) := fun f args s Q Q' hQ h C hM hC => hM f args s Q Q' hQ (h C hM hC)

/-- HOW A CALL IS ENTERED. -/
theorem calls_body {f : FuncId} (hl : laid f = none) {args : List Value} {Q : Post} {s : St} (h : bodyW P (calls P wips laid) wips f args Q s) : calls P wips laid f args Q s := fun C hM hC => by
  refine hC f args Q s ?_
  simp only [stepC, hl]
  exact bodyW_mono (fun f args Q s h => h C hM hC) hM (fun _ _ h => h) h
theorem calls_laid {f : FuncId} {X : List Value → Post → St → Prop} (hl : laid f = some X) {args : List Value} {Q : Post} {s : St} (h : X args Q s) : calls P wips laid f args Q s := fun C hM hC => by
  refine hC f args Q s ?_
  simp only [stepC, hl]
  exact h
theorem calls_mono {f : FuncId} {args : List Value} {Q Q' : Post} {s : St} (h : calls P wips laid f args Q s) (hQ : ∀ v s, Q v s → Q' v s) : calls P wips laid f args Q' s := calls_monoC f args s Q Q' hQ h

/-! ## Soundness -/

theorem asAddr_of_load {t : TypeId} {p v : Value} {w w' : World} (h : (Instr.loadAt t p).run P w = .ok v w') : (do loadVar t (← asAddr p) : Sem Value).run P w = .ok v w' := by
  cases p with
  | pointer a =>
    cases a with
    | none => simp [Instr.loadAt, Instr.sureAddr] at h
    | some a => simpa [Instr.loadAt, Instr.sureAddr, asAddr] using h
  | _ => simp [Instr.loadAt, Instr.sureAddr] at h

def resF (t : Array Value) : ResultVar → Sem Value
  | .tmp i => pure (t.getD i undef)
  | .cell a ty => do loadVar ty (← asAddr (t.getD a undef))

theorem consO_some {x : Option Value} {r : Option (List Value)} {l : List Value} (h : consO x r = some l) : ∃ v vs, x = some v ∧ r = some vs ∧ l = v :: vs := by
  cases x <;> cases r <;> simp [consO] at h
  exact ⟨_, _, rfl, rfl, h.symm⟩

theorem resL_run {N : Nat} {s : St} {J : Nat → Plc} {w : World} (hS : Sim G s J w) {A : Fr} {t : Array Value} (hA : VRf N s.next J A t) : ∀ (l : List ResultVar) (vs : List Value), resL P A s l = some vs →
    ∃ vs' : List Value, vs.length = vs'.length ∧ (∀ (i : Nat) (x y : Value), vs[i]? = some x → vs'[i]? = some y → VR s.next J false x y) ∧
      (l.mapM (resF t)).run P w = .ok vs' w := by
  intro l
  induction l with
  | nil => intro vs h; cases h; exact ⟨[], rfl, fun i x y hx => by simp at hx, by simp⟩
  | cons r l ih =>
    intro vs h
    cases r with
    | tmp i =>
      simp only [resL] at h
      obtain ⟨v1, vs1, e1, h1, rfl⟩ := consO_some h
      cases e1
      obtain ⟨vs', h2, h3, h4⟩ := ih vs1 h1
      refine ⟨t.getD i undef :: vs', by simp [h2], fun j x y hx hy => ?_, by rw [List.mapM_cons]; simp [resF, h4]⟩
      cases j with
      | zero => simp at hx hy; rw [← hx, ← hy]; simpa using hA.2 i
      | succ j => exact h3 j x y (by simpa using hx) (by simpa using hy)
    | cell a ty =>
      simp only [resL] at h
      obtain ⟨v, vs1, hv, h1, rfl⟩ := consO_some h
      obtain ⟨vs', h2, h3, h4⟩ := ih vs1 h1
      obtain ⟨v', hr, hrun⟩ := loadV_run hS hv (hA.2 a)
      have hrun := asAddr_of_load (hrun w (.refl w))
      refine ⟨v' :: vs', by simp [h2], fun j x y hx hy => ?_, by
        rw [List.mapM_cons]
        have e : (resF t (.cell a ty)).run P w = .ok v' w := hrun
        simp [e, h4]⟩
      cases j with
      | zero => simp at hx hy; rw [← hx, ← hy]; exact hr
      | succ j => exact h3 j x y (by simpa using hx) (by simpa using hy)

theorem resV_run {N : Nat} {s : St} {J : Nat → Plc} {w : World} (hS : Sim G s J w) {A : Fr} {t : Array Value} (hA : VRf N s.next J A t) {fn : Func} {v : Value} (h : resV P fn A s = some v) :
    ∃ v', VR s.next J false v v' ∧ (results fn t).run P w = .ok v' w := by
  unfold resV retV at h
  have run : ∀ {vs : List Value}, resL P A s fn.results.toList = some vs → ∃ vs' : List Value, vs.length = vs'.length ∧ (∀ (i : Nat) (x y : Value), vs[i]? = some x → vs'[i]? = some y → VR s.next J false x y) ∧
      (results fn t).run P w = .ok (if h : vs'.toArray.size = 1 then vs'.toArray[0] else .tuple vs'.toArray) w := by
    intro vs hvs
    obtain ⟨vs', h1, h2, h3⟩ := resL_run hS hA _ _ hvs
    refine ⟨vs', h1, h2, ?_⟩
    have e : results fn t = (do let vs ← fn.results.mapM (resF t); pure (if h : vs.size = 1 then vs[0] else .tuple vs)) := by
      unfold results
      congr 1
    rw [e, Array.mapM_eq_mapM_toList]
    simp [h3]
  split at h
  · rename_i x hx
    cases h
    obtain ⟨vs', h1, h2, h3⟩ := run hx
    match vs', h1 with
    | [y], _ => exact ⟨y, h2 0 v y rfl rfl, by simpa using h3⟩
  · rename_i vs hne hvs
    cases h
    obtain ⟨vs', h1, h2, h3⟩ := run hvs
    have hn : vs'.length ≠ 1 := fun h => by
      rw [h] at h1
      match vs, h1 with
      | [x], _ => exact hne x rfl
    refine ⟨.tuple vs'.toArray, .tuple (by simpa using h1) (fun i x y hx hy => h2 i x y (by simpa using hx) (by simpa using hy)), ?_⟩
    rw [h3]
    simp [hn]
  · cases h

/-- ALL THAT THE CALCULUS SAYS OF CALLS IS SO. -/
theorem sound_calls (hG : 1000 ≤ G) (hm : P.follows .mixedOrders = true)
    (hl : ∀ f X, laid f = some X → ∀ args Q s, X args Q s → ∀ (J : Nat → Plc) (w : World) (args' : Array Value), Sim G s J w → VRs s.next J args args' → hasBody P f = true → CallsIn Fence.wide 0 P f args' w (CallR G s J w Q)) :
    Sound P G (calls P wips laid) := by
  let C0 : CallT := fun f args Q s => ∀ (J : Nat → Plc) (w : World) (args' : Array Value), Sim G s J w → VRs s.next J args args' → hasBody P f = true → CallsIn Fence.wide 0 P f args' w (CallR G s J w Q)
  have hC0 : Sound P G C0 := fun f args Q s h => h
  intro f args Q s h
  refine h C0 ?_ ?_
  · intro f args s Q Q' hQ h J w args' hS hA hb
    refine (h J w args' hS hA hb).mono ?_
    rintro e w' ⟨v', rfl, v, s1, J1, hq, rest⟩
    exact ⟨v', rfl, v, s1, J1, hQ _ _ hq, rest⟩
  · intro f args Q s h J w args' hS hA hb
    simp only [stepC] at h
    split at h
    · rename_i X hX
      exact hl f X hX args Q s h J w args' hS hA hb
    · unfold bodyW at h
      split at h <;> (try exact h.elim)
      rename_i fn hf
      split at h <;> (try exact h.elim)
      rename_i c hc hN
      refine callsIn_of_wp hf hc trivial ?_
      refine code_sim (.inl rfl) hC0 hG hm (s0 := s) (J0 := J) (w0 := w) c 0 _ _ s J _ w _ h hS ?_ rfl (.refl _ _ _) ?_
      · have hN := Nat.eq_of_beq_eq_true hN
        refine ⟨by simp [← hA.1, hN], fun i => ?_⟩
        by_cases hi : i < args.length
        · have hi' : i < args'.size := by rw [← hA.1]; exact hi
          have h1 : (args' ++ Array.replicate (fn.ntmps - args'.size) undef).getD i undef = args'[i] := by
            rw [Array.getD_eq_getD_getElem?, Array.getElem?_append_left hi', Array.getElem?_eq_getElem hi']
            rfl
          show VR _ _ _ _ ((args' ++ Array.replicate (fn.ntmps - args'.size) undef).getD i undef)
          rw [h1]
          unfold ofL
          rw [List.getD_eq_getElem?_getD, List.getElem?_eq_getElem hi]
          exact hA.2 i _ _ (List.getElem?_eq_getElem hi) (Array.getElem?_eq_getElem hi')
        · unfold ofL
          rw [List.getD_eq_getElem?_getD, List.getElem?_eq_none (by omega)]
          exact .dc
      · intro ex A' s' J' a' w' hk hS' hA' hd' h0'
        have key : kEnd Q s (resV P fn A' s') s' → a'.defers = [] ∧ ∃ v, (results fn a'.tmps).run P w' = .ok v w' ∧ CallR G s J w Q (.returned v) w' := by
          intro hk
          unfold kEnd at hk
          split at hk <;> (try exact hk.elim)
          rename_i v hv
          obtain ⟨v', h1, h2⟩ := resV_run hS' hA' hv
          refine ⟨hd', v', h2, v', rfl, v, ?_⟩
          rcases hk with hk | ⟨hsame, hbel, hk⟩
          · exact ⟨s', J', hk, h1, hS', h0'⟩
          · obtain ⟨f1, f2⟩ := hS.forget hS' h0' hsame
            exact ⟨s, J', hk, h1.down (fun _ _ => rfl) hbel, f1, f2⟩
        cases ex with
        | normal => exact key hk
        | ret => exact key hk
        | exit id => exact hk.elim

end Go.Zz
