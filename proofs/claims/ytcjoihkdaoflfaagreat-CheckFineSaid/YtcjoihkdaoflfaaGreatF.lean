/- Building values; all operations that only reckon, in one theorem. -/
import Derived.Test.YtcjoihkdaoflfaaGreatE
import Derived.Laws.Tables
set_option linter.all false
namespace Go.Zz
open Go

variable {P : Program} {n : Nat} {J : Nat → Plc}

/-- Cells of both sides, one by one. -/
def VRa (n : Nat) (J : Nat → Plc) (cs cs' : Array Value) : Prop := cs.size = cs'.size ∧ ∀ (i : Nat) (x y : Value), cs[i]? = some x → cs'[i]? = some y → VR n J true x y

theorem VRa.set {cs cs' : Array Value} (h : VRa n J cs cs') (d : Nat) {x y : Value} (hv : VR n J true x y) : VRa n J (cs.setIfInBounds d x) (cs'.setIfInBounds d y) := by
  refine ⟨by simp [h.1], fun i u v hu hv' => ?_⟩
  rw [Array.getElem?_setIfInBounds] at hu hv'
  by_cases hd : d = i
  · subst hd
    rw [if_pos rfl] at hu hv'
    split at hu
    · split at hv'
      · cases hu; cases hv'; exact hv
      · cases hv'
    · cases hu
  · rw [if_neg hd] at hu hv'
    exact h.2 i u v hu hv'

theorem VRa.writes (off : Nat) : ∀ (vs vs' : List (Value × Nat)) (cs cs' : Array Value), vs.length = vs'.length → (∀ (i : Nat) (x y : Value × Nat), vs[i]? = some x → vs'[i]? = some y → x.2 = y.2 ∧ VR n J true x.1 y.1) →
    VRa n J cs cs' → VRa n J (vs.foldl (fun cs (c, j) => cs.setIfInBounds (off + j) c) cs) (vs'.foldl (fun cs (c, j) => cs.setIfInBounds (off + j) c) cs')
  | [], [], _, _, _, _, h => h
  | [], _ :: _, _, _, hl, _, _ => by simp at hl
  | _ :: _, [], _, _, hl, _, _ => by simp at hl
  | x :: vs, y :: vs', cs, cs', hl, hr, h => by
    obtain ⟨h1, h2⟩ := hr 0 x y rfl rfl
    simp only [List.foldl_cons]
    refine VRa.writes off vs vs' _ _ (by simpa using hl) (fun i a b ha hb => hr (i + 1) a b (by simpa using ha) (by simpa using hb)) ?_
    rw [h1]
    exact h.set _ h2

theorem foldl_zipIdx (off : Nat) (v : Array Value) (cs : Array Value) :
    v.zipIdx.foldl (fun cs (c, j) => cs.setIfInBounds (off + j) c) cs = v.toList.zipIdx.foldl (fun cs (c, j) => cs.setIfInBounds (off + j) c) cs := by
  rw [← Array.foldl_toList, Array.toList_zipIdx]

theorem fill_rel (place : Nat → Option (Nat × Nat)) : ∀ (ps ps' : List (Nat × Value)) (cs cs' r : Array Value), ps.length = ps'.length →
    (∀ (i : Nat) (x y : Nat × Value), ps[i]? = some x → ps'[i]? = some y → x.1 = y.1 ∧ VR n J false x.2 y.2 ∧ data x.2 = true) → VRa n J cs cs' → Instr.fill place cs ps = some r →
    ∃ r', Instr.fill place cs' ps' = some r' ∧ VRa n J r r'
  | [], [], cs, cs', r, _, _, h, hf => by simp [Instr.fill] at hf; subst hf; exact ⟨cs', rfl, h⟩
  | [], _ :: _, _, _, _, hl, _, _, _ => by simp at hl
  | _ :: _, [], _, _, _, hl, _, _, _ => by simp at hl
  | (i, v) :: ps, (i', v') :: ps', cs, cs', r, hl, hr, h, hf => by
    obtain ⟨h1, h2, h3⟩ := hr 0 (i, v) (i', v') rfl rfl
    simp at h1 h2 h3
    subst h1
    obtain ⟨hs, hc⟩ := h2.cells h3
    simp only [Instr.fill] at hf ⊢
    cases hp : place i with
    | none => rw [hp] at hf; cases hf
    | some os =>
      obtain ⟨off, size⟩ := os
      rw [hp] at hf
      simp only at hf ⊢
      rw [← hs, ← h.1]
      split at hf
      · cases hf
      · rename_i hcond
        rw [if_neg hcond]
        rw [foldl_zipIdx] at hf ⊢
        refine fill_rel place ps ps' _ _ r (by simpa using hl) (fun i a b ha hb => hr (i + 1) a b (by simpa using ha) (by simpa using hb)) ?_ hf
        refine VRa.writes off _ _ _ _ (by simp [hs]) (fun j a b ha hb => ?_) h
        obtain ⟨a1, a2⟩ := a
        obtain ⟨b1, b2⟩ := b
        rw [List.getElem?_zipIdx] at ha hb
        cases hva : v.cells.toList[j]? with
        | none => rw [hva] at ha; simp at ha
        | some u =>
          cases hvb : v'.cells.toList[j]? with
          | none => rw [hvb] at hb; simp at hb
          | some u' =>
            rw [hva] at ha
            rw [hvb] at hb
            simp at ha hb
            refine ⟨by rw [← ha.2, ← hb.2], ?_⟩
            rw [← ha.1, ← hb.1]
            exact hc j u u' (by simpa using hva) (by simpa using hvb)

theorem VRa.plain {cs : Array Value} (h : cs.all Zz.plain = true) : VRa n J cs cs :=
  ⟨rfl, fun i x y hx hy => by rw [hx] at hy; cases hy; exact .plain (Array.all_eq_true'.1 h x (Array.mem_of_getElem? hx))⟩

theorem tZero_some {t : TypeId} {z : List Value} (h : tZero P t = some z) : ∃ i v, P.info? t = some i ∧ i.zero = some v ∧ data v = true ∧ v.cells.all Zz.plain = true ∧ v.cells.toList = z := by
  unfold tZero at h
  split at h
  · rename_i v hv
    split at h
    · rename_i hc
      simp only [Bool.and_eq_true] at hc
      cases h
      cases hi : P.info? t with
      | none => rw [hi] at hv; cases hv
      | some i => rw [hi] at hv; exact ⟨i, v, rfl, hv, hc.1, hc.2, rfl⟩
    · cases h
  · cases h

theorem run_zeroValue {t : TypeId} {i : TypeInfo} {v : Value} (hi : P.info? t = some i) (hz : i.zero = some v) (w : World) : (zeroValue t).run P w = .ok v w := by
  simp [zeroValue, typeInfo, hi, hz]

theorem tSize_some {t : TypeId} {m : Nat} (h : tSize P t = some m) : ∃ i, P.info? t = some i ∧ i.size = m := by
  unfold tSize at h
  cases hi : P.info? t with
  | none => rw [hi] at h; cases h
  | some i => rw [hi] at h; cases h; exact ⟨i, rfl, rfl⟩

theorem fillV_rel {place : Nat → Option (Nat × Nat)} {z : List Value} {zz : Array Value} {l : List Value} {ps ps' : Array (Nat × Value)} (h : fillV place z ps = some l) (hs : ps.size = ps'.size)
    (hr : ∀ (i : Nat) (x y : Nat × Value), ps[i]? = some x → ps'[i]? = some y → x.1 = y.1 ∧ VR n J false x.2 y.2) (hz : VRa n J z.toArray zz) :
    ∃ r', Instr.fill place zz ps'.toList = some r' ∧ VRa n J l.toArray r' := by
  unfold fillV at h
  split at h
  · rename_i hd
    cases hf : Instr.fill place z.toArray ps.toList with
    | none => rw [hf] at h; cases h
    | some r =>
      rw [hf] at h
      cases h
      obtain ⟨r', h1, h2⟩ := fill_rel (n := n) (J := J) place ps.toList ps'.toList z.toArray zz r (by simpa using hs)
        (fun i x y hx hy => by
          have hx' : ps[i]? = some x := by simpa using hx
          obtain ⟨e1, e2⟩ := hr i x y hx' (by simpa using hy)
          exact ⟨e1, e2, Array.all_eq_true'.1 hd x (Array.mem_of_getElem? hx')⟩) hz hf
      exact ⟨r', h1, by simpa using h2⟩
  · cases h

theorem parts_rel {parts : Array (Nat × Operand)} {ρ ρ' : Operand → Value} (hρ : ∀ x, VR n J false (ρ x) (ρ' x)) (i : Nat) (x y : Nat × Value)
    (hx : (parts.map fun p => (p.1, ρ p.2))[i]? = some x) (hy : (parts.map fun p => (p.1, ρ' p.2))[i]? = some y) : x.1 = y.1 ∧ VR n J false x.2 y.2 := by
  rw [Array.getElem?_map] at hx hy
  cases hp : parts[i]? with
  | none => rw [hp] at hx; cases hx
  | some p => rw [hp] at hx hy; cases hx; cases hy; exact ⟨rfl, hρ _⟩

theorem buildV_run {t : TypeId} {parts parts' : Array (Nat × Value)} {v : Value} (h : buildV P t parts = some v) (hs : parts.size = parts'.size)
    (hr : ∀ (i : Nat) (x y : Nat × Value), parts[i]? = some x → parts'[i]? = some y → x.1 = y.1 ∧ VR n J false x.2 y.2) :
    ∃ v', VR n J false v v' ∧ ∀ w, (Instr.build t parts').run P w = .ok v' w := by
  unfold buildV at h
  split at h
  · rename_i z hz
    obtain ⟨i, zv, hi, hzv, hd, hp, hzl⟩ := tZero_some hz
    have hza : VRa n J z.toArray zv.cells := by rw [← hzl]; simpa using VRa.plain hp
    split at h
    · rename_i fs hu
      split at h
      · rename_i places hpl
        cases hf : fillV (fun i => places[i]?) z parts with
        | none => rw [hf] at h; cases h
        | some l =>
          rw [hf] at h
          cases h
          obtain ⟨r', h1, h2⟩ := fillV_rel hf hs hr hza
          refine ⟨.agg r', .agg h2.1 h2.2, fun w => ?_⟩
          simp [Instr.build, run_underlying hu, run_zeroValue hi hzv, Array.mapM_eq_mapM_toList, run_places w _ _ hpl]
          rw [h1]
          rfl
      · cases h
    · rename_i l e hu
      split at h
      · rename_i m hm
        obtain ⟨ii, hii, hsz⟩ := tSize_some hm
        cases hf : fillV (fun i => some (i * m, m)) z parts with
        | none => rw [hf] at h; cases h
        | some l =>
          rw [hf] at h
          cases h
          obtain ⟨r', h1, h2⟩ := fillV_rel hf hs hr hza
          refine ⟨.agg r', .agg h2.1 h2.2, fun w => ?_⟩
          simp [Instr.build, run_underlying hu, run_zeroValue hi hzv, run_sizeOf hii, hsz, h1]
      · cases h
    · cases h
  · cases h

theorem fold_run (f : Value → Value → Option Value) (g : Value → Value → Sem Value)
    (hfg : ∀ a b a' v, f a b = some v → VR n J false a a' → ∀ b', VR n J false b b' → VR n J false v v ∧ ∀ w, (g a' b').run P w = .ok v w) :
    ∀ (l l' : List Value) (a a' v : Value), l.length = l'.length → (∀ (i : Nat) (x y : Value), l[i]? = some x → l'[i]? = some y → VR n J false x y) → VR n J false a a' →
      l.foldl (fun a y => a.bind fun a => f a y) (some a) = some v → ∃ v', VR n J false v v' ∧ ∀ w, (l'.foldlM g a').run P w = .ok v' w
  | [], [], a, a', v, _, _, ha, h => by simp at h; subst h; exact ⟨a', ha, fun w => by simp⟩
  | [], _ :: _, _, _, _, hl, _, _, _ => by simp at hl
  | _ :: _, [], _, _, _, hl, _, _, _ => by simp at hl
  | x :: l, x' :: l', a, a', v, hl, hr, ha, h => by
    simp only [List.foldl_cons, Option.bind_some] at h
    cases hf : f a x with
    | none =>
      rw [hf] at h
      exfalso
      have : ∀ l : List Value, l.foldl (fun a y => a.bind fun a => f a y) none = none := by
        intro l; induction l with
        | nil => rfl
        | cons y l ih => simpa using ih
      rw [this] at h
      cases h
    | some u =>
      rw [hf] at h
      obtain ⟨h1, h2⟩ := hfg a x a' u hf ha x' (hr 0 x x' rfl rfl)
      obtain ⟨v', hv, hrun⟩ := fold_run f g hfg l l' u u v (by simpa using hl) (fun i a b ha hb => hr (i + 1) a b (by simpa using ha) (by simpa using hb)) h1 h
      exact ⟨v', hv, fun w => by simp [List.foldlM_cons, h2, hrun]⟩

theorem args_rel {args : List Operand} {ρ ρ' : Operand → Value} (hρ : ∀ x, VR n J false (ρ x) (ρ' x)) (i : Nat) (x y : Value)
    (hx : (args.map ρ)[i]? = some x) (hy : (args.map ρ')[i]? = some y) : VR n J false x y := by
  rw [List.getElem?_map] at hx hy
  cases hp : args[i]? with
  | none => rw [hp] at hx; cases hx
  | some p => rw [hp] at hx hy; cases hx; cases hy; exact hρ _

theorem foldV_run (f : Value → Value → Option Value) (g : Value → Value → Sem Value)
    (hfg : ∀ a b a' v, f a b = some v → VR n J false a a' → ∀ b', VR n J false b b' → VR n J false v v ∧ ∀ w, (g a' b').run P w = .ok v w)
    {args : List Operand} {ρ ρ' : Operand → Value} (hρ : ∀ x, VR n J false (ρ x) (ρ' x)) {v : Value} (h : foldV f (args.map ρ) = some v) :
    ∃ x r, args = x :: r ∧ ∃ v', VR n J false v v' ∧ ∀ w, ((r.map ρ').foldlM g (ρ' x)).run P w = .ok v' w := by
  cases args with
  | nil => simp [foldV] at h
  | cons x r =>
    refine ⟨x, r, rfl, ?_⟩
    simp only [List.map_cons, foldV] at h
    exact fold_run f g hfg _ _ _ _ v (by simp) (fun i a b ha hb => args_rel hρ i a b ha hb) (hρ x) h

theorem min2xrun (a b a' v : Value) (h : min2 a b = some v) (ha : VR n J false a a') (b' : Value) (hb : VR n J false b b') : VR n J false v v ∧ ∀ w, (Builtin.min2 a' b').run P w = .ok v w := by
  unfold min2 at h
  split at h
  · cases h; cases ha.int_inv; cases hb.int_inv
    exact ⟨.one (.int _ _), fun w => by simp [Builtin.min2]⟩
  · cases h
theorem max2xrun (a b a' v : Value) (h : max2 a b = some v) (ha : VR n J false a a') (b' : Value) (hb : VR n J false b b') : VR n J false v v ∧ ∀ w, (Builtin.max2 a' b').run P w = .ok v w := by
  unfold max2 at h
  split at h
  · cases h; cases ha.int_inv; cases hb.int_inv
    exact ⟨.one (.int _ _), fun w => by simp [Builtin.max2]⟩
  · cases h

theorem VR.toOne {x y : Value} (h : VR n J false x y) (h1 : (x.oneCell' && data x) = true) : VR n J true x y := by
  generalize ho : false = o at h
  cases h with
  | skip => simp [data] at h1
  | one h => exact h
  | dc => simp [undef, Value.oneCell'] at h1
  | agg _ _ => simp [Value.oneCell'] at h1
  | tuple _ _ => simp [Value.oneCell'] at h1
  | _ => cases ho

theorem tConcrete_run {t : TypeId} (h : tConcrete P t = true) (x : Value) (w : World) : (Instr.makeInterface t x).run P w = .ok (.iface t x) w := by
  unfold tConcrete at h
  split at h
  · cases h
  · rename_i d hne hd
    simp only [Instr.makeInterface, Sem.run_bind, run_underlying hd, Result.andThen_ok]
    cases d <;> first | rfl | (exact absurd rfl (by rename_i ms; exact fun _ => hne ms hd))
  · cases h

/-- ALL OPERATIONS THAT ONLY RECKON. -/
theorem pure_sim {o : Oper} {ρ ρ' : Operand → Value} {v : Value} (hc : cls o.op = .p) (hρ : ∀ x, VR n J false (ρ x) (ρ' x)) (h : pureV P o.op ρ = some v) :
    ∃ v', VR n J false v v' ∧ ∀ w, (execOp ρ' o).run P w = .ok (.value v') w := by
  obtain ⟨dst, op, type, pos, after, guard⟩ := o
  have lift : ∀ {x : Sem Value} {v' : Value}, (∀ w, x.run P w = .ok v' w) → ∀ w, (do pure (Next.value (← x)) : Sem Next).run P w = .ok (.value v') w := fun hx w => by simp [hx]
  cases op <;> simp only [cls] at hc <;> simp only [pureV] at h <;> simp only [execOp]
  case move x => cases h; exact ⟨_, hρ x, fun w => rfl⟩
  case assign x => cases h; exact ⟨_, hρ x, fun w => rfl⟩
  case pick c a b => exact pickV_run h (hρ c) (hρ a) (hρ b)
  case build t parts =>
    obtain ⟨v', h1, h2⟩ := buildV_run (n := n) (J := J) (parts' := parts.map fun (i, x) => (i, ρ' x)) (by rw [mapP_eq] at h; exact h) (by simp) (fun i x y hx hy => parts_rel hρ i x y hx hy)
    exact ⟨v', h1, lift h2⟩
  case nilCheck x =>
    obtain ⟨h1, h2⟩ := nilV_run h (hρ x)
    refine ⟨_, h1, fun w => ?_⟩
    rcases h2 with ⟨a, e⟩ | ⟨f, a, b, e⟩ | ⟨t, u, e⟩ <;> rw [e] <;> rfl
  case binOp op t x y yt =>
    have hrel : VR n J false v v := (binV_run h (hρ x) (hρ y) x y default).2
    exact ⟨v, hrel, lift fun w => (binV_run h (hρ x) (hρ y) x y w).1⟩
  case unOp op t x => obtain ⟨h1, h2⟩ := unV_run h (hρ x); exact ⟨v, h1, lift h2⟩
  case convert s d x => obtain ⟨h1, h2⟩ := convV_run h (hρ x); exact ⟨v, h1, lift h2⟩
  case makeInterface t x =>
    unfold mkIf at h
    split at h
    · rename_i hcd
      simp only [Bool.and_eq_true] at hcd
      cases h
      refine ⟨_, .one (.iface (hρ x) (fun vs e => ?_) (fun r e => ?_)), lift (tConcrete_run hcd.1 _)⟩
      · rw [e] at hcd; simp [data] at hcd
      · rw [e] at hcd; simp [data] at hcd
    · cases h
  case makeFunc fn first captured =>
    split at h
    · rename_i f
      rw [mapA_eq] at h
      unfold mkFn at h
      split at h
      · rename_i hf
        cases h
        simp only [Bool.and_eq_true, beq_iff_eq, decide_eq_true_eq] at hf
        have hf' : first = #[] := by simpa using hf.1
        subst hf'
        refine ⟨.func (.func f) #[] (captured.map ρ'), .one (.func rfl (by simp) (fun i x y hx hy => ?_)), lift (fun w => by simp [Instr.makeFunc])⟩
        have h1 := Array.all_eq_true'.1 hf.2 x (Array.mem_of_getElem? hx)
        rw [Array.getElem?_map] at hx hy
        cases hp : captured[i]? with
        | none => rw [hp] at hx; cases hx
        | some p => rw [hp] at hx hy; cases hx; cases hy; exact (hρ p).toOne h1
      · cases h
    · cases h
  case fieldAddr t x f => obtain ⟨v', h1, h2⟩ := ptrAdd_run h (hρ x); exact ⟨v', h1, lift h2⟩
  case field t x f => obtain ⟨v', h1, h2⟩ := partV_run h (hρ x); exact ⟨v', h1, lift h2⟩
  case indexAddr t x i => obtain ⟨v', h1, h2⟩ := idxAddr_run h (hρ x) (hρ i); exact ⟨v', h1, lift h2⟩
  case index t x i => obtain ⟨v', h1, h2⟩ := idxVal_run h (hρ x) (hρ i); exact ⟨v', h1, lift h2⟩
  case extract x i => obtain ⟨v', h1, h2⟩ := extV_run h (hρ x); exact ⟨v', h1, lift h2⟩
  case call c =>
    split at h
    · rename_i hce
      obtain ⟨x, r, ha, v', h1, h2⟩ := foldV_run (P := P) min2 Builtin.min2 min2xrun hρ h
      refine ⟨v', h1, fun w => ?_⟩
      simp [resolve, hce, invoke, builtin, Builtin.min_, ha, h2]
    · rename_i hce
      obtain ⟨x, r, ha, v', h1, h2⟩ := foldV_run (P := P) max2 Builtin.max2 max2xrun hρ h
      refine ⟨v', h1, fun w => ?_⟩
      simp [resolve, hce, invoke, builtin, Builtin.max_, ha, h2]
    · cases h
  all_goals (cases hc)

end Go.Zz
