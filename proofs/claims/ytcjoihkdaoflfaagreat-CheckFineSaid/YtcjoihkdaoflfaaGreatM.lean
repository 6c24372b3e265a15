/- What holds in the calculus holds of the machine: operations, and code whose order is fixed. -/
import Derived.Test.YtcjoihkdaoflfaaGreatK
import Derived.Test.YtcjoihkdaoflfaaGreatL
import Derived.RangeFuncCalls
import Derived.OrdersIn
import Derived.Laws.Externs
import Derived.KernelRfl
set_option linter.all false
namespace Go.Zz
open Go

variable {P : Program} {G : Nat} {s : St} {J : Nat → Plc} {w : World} {F : Fence} {C : CallT}

def Wide (F : Fence) : Prop := F = Fence.wide ∨ ∃ l, F = Fence.wide.inRound l
theorem Wide.fn (h : Wide F) (f : FuncId) : F.fn f := by rcases h with rfl | ⟨l, rfl⟩ <;> trivial
theorem Wide.depth (h : Wide F) : F.depth.isSome = true → 1 ≤ 0 := by rcases h with rfl | ⟨l, rfl⟩ <;> (intro h; simp [Fence.wide] at h)
theorem Wide.calls (h : Wide F) {n : Nat} {f : FuncId} {args : Array Value} {R : Ending → World → Prop} (hc : CallsIn Fence.wide n P f args w R) : CallsIn F n P f args w R := by
  rcases h with rfl | ⟨l, rfl⟩
  · exact hc
  · exact CallsIn.inRound l hc

/-- What a call comes to. -/
def CallR (G : Nat) (s : St) (J : Nat → Plc) (w : World) (Q : Post) : Ending → World → Prop := fun e w' => ∃ v', e = .returned v' ∧ After G s J w Q v' w'

/-- What is said of calls is so. -/
def Sound (P : Program) (G : Nat) (C : CallT) : Prop := ∀ f args Q s, C f args Q s → ∀ (J : Nat → Plc) (w : World) (args' : Array Value), Sim G s J w → VRs s.next J args args' → hasBody P f = true →
  CallsIn Fence.wide 0 P f args' w (CallR G s J w Q)

/-- A frame and a memory that stand to abstract ones. -/
def FrameR (G N : Nat) (s0 : St) (J0 : Nat → Plc) (w0 : World) (K : Fr → St → Prop) (a : Act) (w : World) : Prop :=
  ∃ A s J, K A s ∧ Sim G s J w ∧ VRf N s.next J A a.tmps ∧ a.defers = [] ∧ Step s0 J0 w0 s J w

theorem VRf.put {N n : Nat} {A : Fr} {a : Act} (h : VRf N n J A a.tmps) (dst : Option Tmp) {x y : Value} (hv : VR n J false x y) : VRf N n J (putA N A dst x) (a.put dst y).tmps := by
  cases dst with
  | none => exact h
  | some d =>
    refine ⟨by simp [Act.put, h.1], fun i => ?_⟩
    simp only [putA, Act.put]
    cases hb : Nat.blt d N with
    | true =>
      have hlt : d < N := by simpa using hb
      by_cases hd : d = i
      · subst hd; simp only; rw [setV_self]; simp [h.1, hlt]; exact hv
      · simp only; rw [setV_other _ hd]
        have := h.2 i
        simpa [Array.getElem?_setIfInBounds_ne hd] using this
    | false =>
      have hlt : ¬ d < N := fun hlt => by
        have : Nat.blt d N = true := by simpa using hlt
        rw [hb] at this; cases this
      have hsz : a.tmps.size ≤ d := by rw [h.1]; exact Nat.le_of_not_lt hlt
      rw [Array.setIfInBounds_eq_of_size_le hsz]
      exact h.2 i

theorem run_callFunc {f : FuncId} (h : hasBody P f = true) (args : Array Value) (w : World) : (callFunc f args).run P w = .ok (.enter f args) w := by
  unfold hasBody at h
  cases hf : P.funcs[f]? with
  | none => rw [hf] at h; cases h
  | some fn =>
    rw [hf] at h
    simp only [Bool.and_eq_true, bne_iff_ne, ne_eq] at h
    obtain ⟨h1, h2⟩ := h
    obtain ⟨c, hc⟩ := Option.isSome_iff_exists.1 h2
    simp [callFunc, hf, h1, hc]

theorem method_run {t : TypeId} {name : String} {g : FuncId} (h : tMethod P t name = some g) (v : Value) (k : Nat) (w : World) : (method (k + 1) t v name).run P w = .ok (g, v) w := by
  unfold tMethod at h
  split at h
  · rename_i m hm
    cases hi : P.info? t with
    | none => rw [hi] at hm; cases hm
    | some i =>
      rw [hi] at hm
      have hm' : i.methods.find? (fun x => x.name == name) = some m := hm
      split at h
      · rename_i f e hf hu
        split at h
        · rename_i hp
          cases h
          have hp' : m.path = #[] := by simpa using hp
          simp [method, typeInfo, hi, hm', hp', follow, hf, receiverAt, run_underlying hu, Place.get]
        · cases h
      · cases h
      · cases h
      · rename_i f d hn1 hn2 hf hu
        split at h
        · rename_i hp
          cases h
          have hp' : m.path = #[] := by simpa using hp
          have hne : ∀ e, d ≠ .pointer e := fun e he => by subst he; exact hn1 e rfl
          simp only [method, typeInfo, Sem.run_bind, run_program, Result.andThen_ok, hi, Sem.run_pure, hm', hp', follow, hf, receiverAt, run_underlying hu]
          cases d <;> first | (exact absurd rfl (hne _)) | rfl
        · cases h
      · cases h
  · cases h

theorem about_wide (hF : Wide F) (o : Oper) (a : Act) : ∀ f, o.about P w a.eval = some f → F.fn f := fun f _ => hF.fn f

theorem find_origin : Extern.allNextRows.lookup "slices.overlaps" = none ∧ Extern.allGenericRows.lookup "slices.overlaps" = none := ⟨by kernel_rfl, by kernel_rfl⟩
theorem find_overlaps (a b : Array TypeId) : (Extern.allTypedRows.lookup "slices.overlaps").map (· a b) = some (Extern.SlicesOverlaps.overlaps a b) := by kernel_rfl

/-- What the model does there. -/
def ovlSem (t : TypeId) (a b : Option Addr) (la lb : Nat) : Sem Value := do
  let .slice elem ← underlying t | stuck "slices.overlaps: slice type expected"
  let size ← sizeOf elem
  match a, b with
  | some a, some b =>
    if la = 0 ∨ lb = 0 ∨ size = 0 then pure (.bool false)
    else if a.block != b.block && (← frozen a) && (← frozen b) then unsupported .addressObserved
    else do
      if a.block != b.block then do
        noView a; noView b
        if ← mayBeOne a b then return .bool ((← choose (.extern "sameAddr.stringBytes" 2)) == 1)
      pure (.bool (a.block == b.block && a.off < b.off + lb * size && b.off < a.off + la * size))
  | _, _ => pure (.bool false)

theorem ovlSem_eq (t u : TypeId) (r : Array TypeId) (a b : Option Addr) (la ca lb cb : Nat) : Extern.SlicesOverlaps.overlaps #[t, u] r #[.slice a la ca, .slice b lb cb] = ovlSem t a b la lb := rfl

/-- slices.overlaps. -/
theorem ovlW_run {g : FuncId} {args : List Value} {args' : Array Value} {k : Post} (hS : Sim G s J w) (h : ovlW (tOvl P g) args k s) (hA : VRs s.next J args args') :
    ∃ v, (callFunc g args').run P w = .ok (.value v) w ∧ After G s J w k v w := by
  cases hz : tOvl P g with
  | none => rw [hz] at h; unfold ovlW at h; split at h <;> first | exact h.elim | simp_all
  | some z =>
    rw [hz] at h
    unfold tOvl at hz
    cases hf : P.funcs[g]? with
    | none => rw [hf] at hz; cases hz
    | some fn =>
      rw [hf] at hz
      simp only at hz
      split at hz
      · rename_i hc
        simp only [Bool.and_eq_true, bne_iff_ne, ne_eq, beq_iff_eq, Option.isNone_iff_eq_none] at hc
        obtain ⟨⟨⟨⟨⟨⟨c1, c2⟩, c3⟩, c4⟩, c5⟩, c6⟩, c7⟩ := hc
        split at hz
        · rename_i t u hp
          rw [Option.map_eq_some_iff] at hz
          obtain ⟨⟨e, m, bb, zz⟩, hs, rfl⟩ := hz
          obtain ⟨hu, i, v, hi, hsz, hb, hzv, hpl, hl, hzl, hpos⟩ := tSlice_some hs
          have hpar : fn.params = #[t, u] := by apply Array.ext'; simpa using hp
          have hn : Extern.findNext fn = none := by
            unfold Extern.findNext
            simp only
            rw [c4, c2, find_origin.1]
            rfl
          have he : Extern.find fn = some (Extern.SlicesOverlaps.overlaps fn.params fn.resultTypes) := by
            have := find_overlaps fn.params fn.resultTypes
            unfold Extern.find
            simp only
            rw [c5, c6, c7, c2, find_origin.2, this]
            rfl
          have hrun : ∀ {y : Value}, (Extern.SlicesOverlaps.overlaps #[t, u] fn.resultTypes args').run P w = .ok y w → (callFunc g args').run P w = .ok (.value y) w := fun hy => by
            rw [run_callFunc_extern hf (by simpa using c1) (by simp [c3]) hn he args' w, hpar, hy]
            rfl
          have hsize : ∀ w : World, (sizeOf e).run P w = .ok m w := fun w => by rw [run_sizeOf hi, hsz]
          have fin : ∀ {b : Bool}, k (.bool b) s → (Extern.SlicesOverlaps.overlaps #[t, u] fn.resultTypes args').run P w = .ok (.bool b) w → ∃ v, (callFunc g args').run P w = .ok (.value v) w ∧ After G s J w k v w :=
            fun hk hy => ⟨_, hrun hy, _, s, J, hk, .one (.bool _), hS, .refl _ _ _⟩
          unfold ovlW at h
          split at h
          · rename_i z' a la ca b lb cb hzz
            cases hzz
            obtain ⟨y1, y2, rfl⟩ : ∃ y1 y2, args' = #[y1, y2] := by
              have := hA.1
              match args', this with
              | ⟨[y1, y2]⟩, _ => exact ⟨y1, y2, rfl⟩
            have r1 : VR s.next J false (.slice a la ca) y1 := hA.2 0 _ _ rfl rfl
            have r2 : VR s.next J false (.slice b lb cb) y2 := hA.2 1 _ _ rfl rfl
            have nil : ∀ (a b : Option Addr) (la ca lb cb : Nat), a = none ∨ b = none ∨ la = 0 ∨ lb = 0 → (Extern.SlicesOverlaps.overlaps #[t, u] fn.resultTypes #[.slice a la ca, .slice b lb cb]).run P w = .ok (.bool false) w := by
              intro a b la ca lb cb hor
              rw [ovlSem_eq]; unfold ovlSem
              cases a with
              | none => simp [run_underlying hu, hsize]
              | some a =>
                cases b with
                | none => simp [run_underlying hu, hsize]
                | some b =>
                  have : la = 0 ∨ lb = 0 ∨ m = 0 := by rcases hor with h | h | h | h <;> first | (cases h; done) | (subst h; simp) | simp [h]
                  simp [run_underlying hu, hsize, this]
            cases a with
            | none =>
              obtain ⟨rfl, rfl, rfl⟩ := r1.nilSlice_inv
              cases b with
              | none => obtain ⟨rfl, rfl, rfl⟩ := r2.nilSlice_inv; exact fin h (nil _ _ _ _ _ _ (.inl rfl))
              | some b => obtain ⟨b', c', rfl, _⟩ := r2.slice_inv; exact fin h (nil _ _ _ _ _ _ (.inl rfl))
            | some a =>
              obtain ⟨a', ca', rfl, ha1, ha2, ha3, ha4, ha5, ha6⟩ := r1.slice_inv
              cases b with
              | none => obtain ⟨rfl, rfl, rfl⟩ := r2.nilSlice_inv; exact fin h (nil _ _ _ _ _ _ (.inr (.inl rfl)))
              | some b =>
                obtain ⟨b', cb', rfl, hb1, hb2, hb3, hb4, hb5, hb6⟩ := r2.slice_inv
                simp only at h
                split at h
                · rename_i h0
                  exact fin h (nil _ _ _ _ _ _ (.inr (.inr h0)))
                · rename_i h0
                  have hla : la ≠ 0 := fun e => h0 (.inl e)
                  have hlb : lb ≠ 0 := fun e => h0 (.inr e)
                  have ea : a' = tr (J a.block) a := ha5.resolve_left (by omega)
                  have eb : b' = tr (J b.block) b := hb5.resolve_left (by omega)
                  subst ea eb
                  have hcond : ¬ (la = 0 ∨ lb = 0 ∨ m = 0) := by omega
                  split at h
                  · rename_i hbl
                    refine fin h ?_
                    rw [ovlSem_eq]; unfold ovlSem
                    simp only [tr, hbl]
                    simp [run_underlying hu, hsize, hcond]
                    have e1 : ∀ x y z : Nat, decide (z + x < z + y) = decide (x < y) := fun x y z => by apply decide_eq_decide.2; omega
                    rw [Nat.add_assoc, Nat.add_assoc, e1, e1]
                  · rename_i hbl
                    split at h
                    · rename_i vs us tl hrow hrow'
                      obtain ⟨hle, hle', hk⟩ := h
                      obtain ⟨g1, _, c, ee, fr, hc, hcs, _, _, hfr, hft⟩ := hS.obj _ _ hrow
                      obtain ⟨g1', _, c', ee', fr', hc', hcs', _⟩ := hS.obj _ _ hrow'
                      have := hft rfl
                      subst this
                      have pos1 : 0 < la * m := Nat.mul_pos (by omega) hpos
                      have pos2 : 0 < lb * m := Nat.mul_pos (by omega) hpos
                      refine fin hk ?_
                      by_cases hcb : (J a.block).cb = (J b.block).cb
                      · have hap : ∀ o, Owns (J a.block) (.cells vs true) (J a.block).cb o → ¬ Owns (J b.block) (.cells us tl) (J a.block).cb o := fun o => hS.apart _ _ _ _ (J a.block).cb o hbl hrow hrow'
                        rw [ovlSem_eq]; unfold ovlSem
                        simp only [tr, hcb]
                        simp [run_underlying hu, hsize, hcond]
                        intro h1
                        rcases Nat.lt_or_ge ((J b.block).k + b.off) ((J a.block).k + a.off) with hlt | hge
                        · exfalso
                          exact hap ((J a.block).k + a.off) ⟨rfl, by omega, by omega⟩ ⟨hcb.symm, by omega, by omega⟩
                        · rcases Nat.lt_or_ge ((J b.block).k + b.off) ((J a.block).k + a.off + la * m) with hlt | hge'
                          · exfalso
                            exact hap ((J b.block).k + b.off) ⟨rfl, by omega, by omega⟩ ⟨hcb.symm, by omega, by omega⟩
                          · exact hge'
                      · have hne1 : ((J a.block).cb != (J b.block).cb) = true := by simpa using hcb
                        have hne2 : ((J a.block).cb == (J b.block).cb) = false := by simpa using hcb
                        have hca : 0 < c.size := by omega
                        have hsa : w.shape? (J a.block).cb = some (ee, c.size) := by simp [World.shape?, hc]
                        have hsb : w.shape? (J b.block).cb = some (ee', c'.size) := by simp [World.shape?, hc']
                        have hfa : ∀ o, w.frozen? ⟨(J a.block).cb, o, none⟩ = false := fun o => by simp [World.frozen?, hc]
                        rw [ovlSem_eq]; unfold ovlSem
                        cases hcc : c.size with
                        | zero => omega
                        | succ q =>
                          rw [hcc] at hsa
                          cases hcc' : c'.size with
                          | zero => omega
                          | succ q' =>
                          rw [hcc'] at hsb
                          cases hfb : w.frozen? { block := (J b.block).cb, off := (J b.block).k + b.off } <;> cases hfb2 : w.frozen? { block := (J b.block).cb, off := q' + 1 } <;>
                          simp [hfb, hfb2, run_underlying hu, hsize, hcond, tr, hne1, hne2, frozen, noView, viewAt, mayBeOne, stringish, shape, Sem.run, hsa, hsb, hfa]
                    · exact h.elim
          · exact h.elim
        · cases hz
      · cases hz

/-- What an operation comes to. -/
def OpR (G : Nat) (s : St) (J : Nat → Plc) (w : World) (k : Post) (a : Act) (dst : Option Tmp) : Act → World → Prop := fun a' w' => ∃ v', a' = a.put dst v' ∧ After G s J w k v' w'

/-- ONE OPERATION. -/
theorem op_core (hF : Wide F) (hC : Sound P G C) {o : Oper} {a : Act} {k : Post} {ρ : Operand → Value} {Q : Exit → Act → World → Prop}
    (hS : Sim G s J w) (hρ : ∀ x, VR s.next J false (ρ x) (a.eval x))
    (h : opW P C o.op ρ k s) : o.wpIn F 0 P a w (OpR G s J w k a o.dst) Q := by
  refine ⟨about_wide hF o a, ?_⟩
  have fin : ∀ {v v' : Value} {s1 : St} {J1 : Nat → Plc} {w1 : World}, k v s1 → VR s1.next J1 false v v' → Sim G s1 J1 w1 → Step s J w s1 J1 w1 → OpR G s J w k a o.dst (a.put o.dst v') w1 := by
    intro v v' s1 J1 w1 hk hv hS1 h1
    exact ⟨v', rfl, v, s1, J1, hk, hv, hS1, h1⟩
  have hsem : (∀ c, o.op ≠ .defer c) → (o.semAt F.round a.eval).run P w = (execOp a.eval o).run P w := fun hnd => by rw [Oper.semAt_eq _ _ _ hnd]
  have value : ∀ {v' : Value} {w1 : World}, (∀ c, o.op ≠ .defer c) → (execOp a.eval o).run P w = .ok (.value v') w1 → OpR G s J w k a o.dst (a.put o.dst v') w1 → o.uponIn F 0 P a (OpR G s J w k a o.dst) Q ((o.semAt F.round a.eval).run P w) := by
    intro v' w1 hnd hr hk
    rw [hsem hnd, hr]
    exact hk
  unfold opW at h
  have hnd : cls o.op = .p ∨ cls o.op = .r ∨ cls o.op = .a → ∀ c, o.op ≠ .defer c := by
    intro hc c he
    rw [he] at hc
    simp [cls] at hc
  split at h
  · rename_i hc
    unfold bindO at h
    split at h
    · rename_i v hv
      obtain ⟨v', h1, h2⟩ := pure_sim hc hρ hv
      exact value (hnd (.inl hc)) (h2 w) (fin h h1 hS (.refl _ _ _))
    · exact h.elim
  · rename_i hc
    unfold bindO at h
    split at h
    · rename_i v hv
      obtain ⟨v', h1, h2⟩ := read_sim hS hc hρ hv
      exact value (hnd (.inr (.inl hc))) (h2 w (.refl w)) (fin h h1 hS (.refl _ _ _))
    · exact h.elim
  · rename_i hc
    unfold newW at h
    split at h
    · rename_i x nk hn
      obtain ⟨hk, ob, h1, h2⟩ := new_sim hc hρ hn
      have hS1 := (hS.holds (holds_alloc w ob)).install (x := x) (o := ob) (blk := w.heap.size) (by show (w.heap.push _)[w.heap.size]? = _; exact Array.getElem?_push_size)
        (fun k => by rintro ⟨b, y, hy, ho⟩; have := (hS.obj b y hy).lt; rw [ho.cb] at this; omega) h1
      have hst : Step s J w (s.alloc x) (putJ J s.next ⟨w.heap.size, 0, newExt x, 0⟩) (w.alloc ob) :=
        Step.install hS.live ((Step.refl s J w).alloc ob) (Nat.le_refl _)
      exact value (hnd (.inr (.inr hc))) (h2 w) (fin h (NewV.rel hk _) hS1 hst)
    · exact h.elim
  · rename_i hc
    -- what changes something
    have after : ∀ {v' : Value} {w1 : World}, After G s J w k v' w1 → OpR G s J w k a o.dst (a.put o.dst v') w1 := by
      rintro v' w1 ⟨v, s1, J1, hk, hv, hS1, h1⟩
      exact fin hk hv hS1 h1
    obtain ⟨dst, op, type, pos, aft, guard⟩ := o
    cases op <;> simp only [effW] at h <;> (try exact h.elim)
    case store t p x =>
      obtain ⟨w1, h1, h2⟩ := storeW_run hS h (hρ p) (hρ x)
      rw [hsem (fun c he => by cases he)]
      simp only [execOp, Sem.run_bind, h1, Result.andThen_ok, Sem.run_pure]
      exact after h2
    case mapUpdate t m key x =>
      obtain ⟨w1, h1, h2⟩ := mapPutW_run hS h (hρ m) (hρ key) (hρ x)
      rw [hsem (fun c he => by cases he)]
      simp only [execOp, Sem.run_bind, h1, Result.andThen_ok, Sem.run_pure]
      exact after h2
    case insert t m key x =>
      obtain ⟨w1, h1, h2⟩ := mapPutW_run hS h (hρ m) (hρ key) (hρ x)
      rw [hsem (fun c he => by cases he)]
      simp only [execOp, Sem.run_bind, h1, Result.andThen_ok, Sem.run_pure]
      exact after h2
    case call c =>
      rw [hsem (fun c he => by cases he)]
      simp only [execOp]
      unfold callW at h
      split at h
      · -- builtin
        rename_i b hce
        have hargs : ∀ {l : List Operand}, c.args.toList = l → c.args = l.toArray := fun hl => by rw [← hl]
        have htys : ∀ {l : List TypeId}, c.argTypes.toList = l → c.argTypes = l.toArray := fun hl => by rw [← hl]
        split at h
        · rename_i x y t u ha ht
          unfold apdW at h
          split at h
          · rename_i e z b zero hs
            obtain ⟨v', w1, h1, h2⟩ := appW_run (ty := type) hS hs h (hρ x) (hρ y)
            simp only [resolve, hce, Sem.run_bind, Sem.run_pure, Result.andThen_ok, invoke, builtin, hargs ha, htys ht, List.map_toArray, List.map_cons, List.map_nil, h1]
            exact after h2
          · exact h.elim
        · rename_i x y t tl ha ht
          unfold cpyW at h
          split at h
          · rename_i e z b zero hs
            obtain ⟨v', w1, h1, h2⟩ := copyW_run (ty := type) hS hs h (hρ x) (hρ y) (ts := c.argTypes) (by rw [htys ht]; rfl)
            simp only [resolve, hce, Sem.run_bind, Sem.run_pure, Result.andThen_ok, invoke, builtin, hargs ha, List.map_toArray, List.map_cons, List.map_nil, h1]
            exact after h2
          · exact h.elim
        · rename_i x y t tl ha ht
          obtain ⟨w1, h1, h2⟩ := delW_run (ty := type) hS h (hρ x) (hρ y) (ts := c.argTypes) (by rw [htys ht]; rfl)
          simp only [resolve, hce, Sem.run_bind, Sem.run_pure, Result.andThen_ok, invoke, builtin, hargs ha, List.map_toArray, List.map_cons, List.map_nil, h1]
          exact after h2
        · rename_i x t ha ht
          obtain ⟨v', w1, h1, h2⟩ := clearW_run (ty := type) hS h (hρ x)
          simp only [resolve, hce, Sem.run_bind, Sem.run_pure, Result.andThen_ok, invoke, builtin, hargs ha, htys ht, List.map_toArray, List.map_cons, List.map_nil, h1]
          exact after h2
        · rename_i x t ha ht
          obtain ⟨v', h1, h2⟩ := capW_run (ty := type) hS h (hρ x)
          simp only [resolve, hce, Sem.run_bind, Sem.run_pure, Result.andThen_ok, invoke, builtin, hargs ha, htys ht, List.map_toArray, List.map_cons, List.map_nil, h1]
          exact after h2
        · exact h.elim
      · -- a function's value
        rename_i f hce
        unfold callF at h
        split at h
        · rename_i g first captured hf
          obtain ⟨hfirst, h⟩ := h
          have hfv := hρ f
          rw [hf] at hfv
          obtain ⟨g', cs', e1, e2, e3, hsz, hrel⟩ := hfv.func_inv
          cases e1
          have hvrs : VRs s.next J (c.args.toList.map ρ ++ captured.toList) (c.args.map a.eval ++ cs') := by
            refine ⟨by simp [hsz], fun i x y hx hy => ?_⟩
            by_cases hi : i < c.args.size
            · rw [List.getElem?_append_left (by simpa using hi)] at hx
              rw [Array.getElem?_append_left (by simpa using hi)] at hy
              exact args_rel hρ i x y hx (by simpa using hy)
            · rw [List.getElem?_append_right (by simpa using hi)] at hx
              rw [Array.getElem?_append_right (by simpa using hi)] at hy
              simp only [List.length_map, Array.length_toList, Array.size_map] at hx hy
              exact .one (hrel _ x y (by simpa using hx) hy)
          unfold callG at h
          split at h
          case h_2 =>
            obtain ⟨v', h1, h2⟩ := ovlW_run hS h hvrs
            simp only [resolve, hce, e3, Deferred.ofValue, Sem.run_bind, Sem.run_pure, Result.andThen_ok, invoke, Array.empty_append, h1]
            exact after h2
          rename_i hb
          have hcl := hC _ _ _ _ h J w _ hS hvrs hb
          simp only [resolve, hce, e3, Deferred.ofValue, Sem.run_bind, Sem.run_pure, Result.andThen_ok, invoke, Array.empty_append, run_callFunc hb]
          refine ⟨hF.depth, (hF.calls hcl).mono ?_⟩
          rintro e w1 ⟨v', rfl, h2⟩
          exact after h2
        · exact h.elim
      · -- a method of an interface's value
        rename_i r name hce
        unfold callI at h
        split at h
        · rename_i t v hr
          split at h
          · rename_i g hm
            obtain ⟨hb, hcall⟩ := h
            have hrv := hρ r
            rw [hr] at hrv
            obtain ⟨v', e1, hvv, hdv⟩ := hrv.iface_inv
            have hvrs : VRs s.next J (v :: c.args.toList.map ρ) (#[v'] ++ c.args.map a.eval) := by
              refine ⟨by simp; omega, fun i x y hx hy => ?_⟩
              cases i with
              | zero =>
                rw [Array.getElem?_append_left (by simp)] at hy
                simp at hx hy
                rw [← hx, ← hy]; exact hvv
              | succ i =>
                rw [List.getElem?_cons_succ] at hx
                rw [Array.getElem?_append_right (by simp)] at hy
                simp only [List.size_toArray, List.length_cons, List.length_nil, Nat.zero_add, Nat.add_sub_cancel] at hy
                exact args_rel hρ i x y hx (by simpa using hy)
            have hcl := hC _ _ _ _ hcall J w _ hS hvrs hb
            have hmr : ∀ w : World, (method (P.types.size + Made.depth) t v' name).run P w = .ok (g, v') w := fun w => method_run hm v' (P.types.size + 99) w
            have hex : (#[Value.iface t v'] ++ c.args.map a.eval).extract 1 (#[Value.iface t v'] ++ c.args.map a.eval).size = c.args.map a.eval := by
              apply Array.ext'
              simp
              exact List.take_of_length_le (by simp)
            have h0e : (#[Value.iface t v'] ++ c.args.map a.eval)[0]? = some (.iface t v') := by rw [Array.getElem?_append_left (by simp)]; rfl
            simp only [resolve, hce, e1, Sem.run_bind, Sem.run_pure, Result.andThen_ok, invoke, h0e, hex, callMethod, run_program, hmr, run_callFunc hb]
            refine ⟨hF.depth, (hF.calls hcl).mono ?_⟩
            rintro e w1 ⟨v', rfl, h2⟩
            exact after h2
          · exact h.elim
        · exact h.elim

theorem op_sim {N : Nat} (hF : Wide F) (hC : Sound P G C) {s0 : St} {J0 : Nat → Plc} {w0 : World} {o : Oper} {A : Fr} {a : Act} {K : Fr → St → Prop} {ρ : Operand → Value} {Q : Exit → Act → World → Prop}
    (hS : Sim G s J w) (hA : VRf N s.next J A a.tmps) (hd : a.defers = []) (h0 : Step s0 J0 w0 s J w) (hρ : ∀ x, VR s.next J false (ρ x) (a.eval x))
    (h : opW P C o.op ρ (fun v s' => K (putA N A o.dst v) s') s) : o.wpIn F 0 P a w (FrameR G N s0 J0 w0 K) Q := by
  refine Oper.wpIn_mono ?_ (op_core hF hC hS hρ h)
  rintro a' w' ⟨v', rfl, v, s1, J1, hk, hv, hS1, h1⟩
  refine ⟨_, s1, J1, hk, hS1, (hA.mono h1.le h1.ext).put o.dst hv, ?_, h0.trans h1⟩
  cases o.dst <;> exact hd

end Go.Zz
