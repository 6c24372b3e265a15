/- Operations that make a new block. -/
import Derived.Test.YtcjoihkdaoflfaaGreatH
set_option linter.all false
namespace Go.Zz
open Go

variable {P : Program} {G : Nat} {s : St} {J : Nat → Plc} {w : World}

/-- What a new block holds, on both sides. -/
def NewR (n : Nat) (J : Nat → Plc) : AObj → Obj → Prop
  | .cells vs tail, o => tail = false ∧ ∃ cs e, o = .cells cs e ∧ VRa n J vs.toArray cs
  | .map es, o => es = [] ∧ o = .map #[] 0

def newExt : AObj → Nat
  | .cells vs _ => vs.length
  | .map _ => 0

theorem VRa.mono {n n' : Nat} {J J' : Nat → Plc} (hn : n ≤ n') (hJ : ∀ b, b < n → J' b = J b) {a b : Array Value} (h : VRa n J a b) : VRa n' J' a b :=
  ⟨h.1, fun i x y hx hy => (h.2 i x y hx hy).mono hn hJ⟩

theorem NewR.mono {n n' : Nat} {J J' : Nat → Plc} (hn : n ≤ n') (hJ : ∀ b, b < n → J' b = J b) {x : AObj} {o : Obj} (h : NewR n J x o) : NewR n' J' x o := by
  cases x with
  | cells vs tail => obtain ⟨h1, cs, e, h2, h3⟩ := h; exact ⟨h1, cs, e, h2, h3.mono hn hJ⟩
  | map es => exact h

theorem NewR.objR {n : Nat} {m : Plc} {x : AObj} {o : Obj} (h : NewR n J x o) (hm : m.k = 0) (he : m.ext = newExt x) (hw : w.heap[m.cb]? = some o) : ObjR n J m w x := by
  cases x with
  | cells vs tail =>
    obtain ⟨h1, cs, e, rfl, hs, hr⟩ := h
    have he' : m.ext = vs.length := he
    have hs' : vs.length = cs.size := by simpa using hs
    have hall : ∀ (i : Nat) (x : Value), vs[i]? = some x → ∃ y, cs[m.k + i]? = some y ∧ VR n J true x y := fun i x hx => by
      have hi : i < cs.size := by rw [← hs']; exact (List.getElem?_eq_some_iff.1 hx).1
      have hg := Array.getElem?_eq_getElem (xs := cs) (i := i) hi
      exact ⟨_, by rw [hm, Nat.zero_add]; exact hg, hr i x _ (by simpa using hx) hg⟩
    refine ⟨by omega, fun _ => he'.symm, cs, e, (0, 0), hw, by omega, hall, fun i hi => ?_, fun i _ h => by omega, fun ht => nomatch h1.symm.trans ht⟩
    obtain ⟨y, hy, hr'⟩ := hall i _ (List.getElem?_eq_getElem (by omega))
    exact ⟨y, hy, hr'.one_right⟩
  | map es =>
    obtain ⟨rfl, rfl⟩ := h
    exact ⟨#[], 0, hw, rfl, fun i x y hx => by simp at hx, fun i y hy => by simp at hy, fun i j y z _ hy => by simp at hy⟩

/-- A block of the machine's that nobody owns is taken in. -/
theorem Sim.install (h : Sim G s J w) {x : AObj} {o : Obj} {blk : Nat} (hw : w.heap[blk]? = some o) (hfree : ∀ k, ¬ Owned s J blk k) (hx : NewR s.next J x o) :
    Sim G (s.alloc x) (putJ J s.next ⟨blk, 0, newExt x, 0⟩) w := by
  have hJ : ∀ b, b < s.next → putJ J s.next ⟨blk, 0, newExt x, 0⟩ b = J b := fun b hb => by simp [putJ, Nat.ne_of_lt hb]
  refine ⟨?_, ?_, ?_, ?_⟩
  · intro b y hy
    simp only [St.alloc] at hy ⊢
    split at hy
    · omega
    · have := h.live b y hy; omega
  · intro b y hy
    simp only [St.alloc] at hy ⊢
    split at hy
    · rename_i hb
      cases hy
      subst hb
      simp only [putJ, if_true]
      exact (hx.mono (Nat.le_succ _) hJ).objR rfl rfl hw
    · rw [hJ b (h.live b y hy)]
      exact (h.obj b y hy).mono (Nat.le_succ _) hJ rfl
  · intro b b' y y' cb k hne hy hy' ho ho'
    simp only [St.alloc] at hy hy'
    split at hy
    · rename_i hb
      split at hy'
      · omega
      · rw [hJ b' (h.live b' y' hy')] at ho'
        have h1 := ho.cb
        simp [putJ, hb] at h1
        subst h1
        exact hfree k ⟨b', y', hy', ho'⟩
    · rw [hJ b (h.live b y hy)] at ho
      split at hy'
      · rename_i hb
        have h2 := ho'.cb
        simp [putJ, hb] at h2
        subst h2
        exact hfree k ⟨b, y, hy, ho⟩
      · rw [hJ b' (h.live b' y' hy')] at ho'
        exact h.apart b b' y y' cb k hne hy hy' ho ho'
  · intro g hg
    obtain ⟨h1, h2, h3⟩ := h.glob g hg
    exact ⟨by simp [St.alloc]; omega, by rw [hJ g h1]; exact h2, by rw [hJ g h1]; exact h3⟩

theorem Step.install {s0 : St} {J0 : Nat → Plc} {w0 : World} (hl : ∀ b x, s.heap b = some x → b < s.next) (h : Step s0 J0 w0 s J w) {x : AObj} {m : Plc} (hb : w0.heap.size ≤ m.cb) :
    Step s0 J0 w0 (s.alloc x) (putJ J s.next m) w := by
  have hJ : ∀ b, b < s.next → putJ J s.next m b = J b := fun b hb => by simp [putJ, Nat.ne_of_lt hb]
  refine ⟨by simp [St.alloc]; have := h.le; omega, fun b hb' => (hJ b (Nat.lt_of_lt_of_le hb' h.le)).trans (h.ext b hb'), h.size, h.os, h.out, h.tape, ?_, h.row, h.other⟩
  rintro cb o hcb hn ⟨b, y, hy, ho⟩
  simp only [St.alloc] at hy
  split at hy
  · rename_i he
    subst he
    have := ho.cb
    simp [putJ] at this
    omega
  · exact h.free cb o hcb hn ⟨b, y, hy, by rwa [hJ b (hl b y hy)] at ho⟩

theorem holds_alloc (w : World) (o : Obj) : Holds w (w.alloc o) := fun cb hcb => by
  simp only [World.alloc, Array.getElem?_push]; simp [Nat.ne_of_lt hcb]

theorem Step.holds {s0 : St} {J0 : Nat → Plc} {w0 w2 : World} (h : Step s0 J0 w0 s J w) (h2 : Holds w w2) (hs : w.heap.size ≤ w2.heap.size) (ho : w2.os = w.os) (hu : w2.output = w.output) (ht : w2.tape = w.tape ∧ w.drawn ≤ w2.drawn) :
    Step s0 J0 w0 s J w2 :=
  ⟨h.le, h.ext, Nat.le_trans h.size hs, ho.trans h.os, hu.trans h.out, ⟨ht.1.trans h.tape.1, Nat.le_trans h.tape.2 ht.2⟩, h.free,
   fun cb c e f hc => let ⟨c', h1, h3⟩ := h.row cb c e f hc; ⟨c', h2.at h1, h3⟩, fun cb x hx hn hf => h2.at (h.other cb x hx hn hf)⟩

theorem Step.alloc {s0 : St} {J0 : Nat → Plc} {w0 : World} (h : Step s0 J0 w0 s J w) (o : Obj) : Step s0 J0 w0 s J (w.alloc o) :=
  h.holds (holds_alloc w o) (by simp) rfl rfl ⟨rfl, Nat.le_refl _⟩

/-- Its length and capacity fit. -/
def NewV.Ok : NewV → Prop
  | .slc l c => l ≤ c ∧ c ≤ 9223372036854775807
  | _ => True

/-- The value that names a new block. -/
theorem NewV.rel {x : AObj} {nk : NewV} (hk : nk.Ok) (blk : Nat) :
    VR (s.next + 1) (putJ J s.next ⟨blk, 0, newExt x, 0⟩) false (nk.val s.next) (nk.val blk) := by
  have ht : (⟨blk, 0, none⟩ : Addr) = tr (putJ J s.next ⟨blk, 0, newExt x, 0⟩ s.next) ⟨s.next, 0, none⟩ := by simp [tr, putJ]
  cases nk with
  | ptr =>
    simp only [NewV.val]
    rw [ht]
    exact .one (.ptr (a := ⟨s.next, 0, none⟩) (Nat.lt_succ_self _) rfl)
  | slc l c => exact .one (.slice (a := ⟨s.next, 0, none⟩) (Nat.lt_succ_self _) rfl hk.1 hk.2 (.inr ht) (.inl rfl))
  | map =>
    have h1 : blk = (putJ J s.next ⟨blk, 0, newExt x, 0⟩ s.next).cb := by simp [putJ]
    simp only [NewV.val]
    conv => arg 5; rw [h1]
    exact .one (.map (Nat.lt_succ_self _))

theorem zeros_rel {n : Nat} {z : List Value} {zc : Array Value} (hz : zc.toList = z) (hp : zc.all plain = true) (m : Nat) : VRa n J (zeros z m).toArray (madeCells zc m) := by
  refine ⟨by simp [zeros, madeCells], fun i x y hx hy => ?_⟩
  simp only [zeros, List.getElem?_toArray, List.getElem?_map] at hx
  simp only [madeCells, Array.getElem?_map] at hy
  have hi : i < m := by
    cases hr : (List.range m)[i]? with
    | none => rw [hr] at hx; cases hx
    | some j => have := (List.getElem?_eq_some_iff.1 hr).1; simpa using this
  simp [hi] at hx hy
  subst hz
  rcases Nat.eq_zero_or_pos zc.size with h0 | h0
  · have : zc = #[] := by simpa using h0
    subst this
    simp at hx hy
    rw [← hx, ← hy]
    exact .dc1 (by rfl)
  · have hlt : i % zc.size < zc.size := Nat.mod_lt _ h0
    simp [hlt] at hx hy
    rw [← hx, ← hy]
    exact .plain (Array.all_eq_true'.1 hp _ (Array.getElem_mem hlt))

theorem tSlice_some {t e : TypeId} {n b : Nat} {z : List Value} (h : tSlice P t = some (e, n, b, z)) : P.underlying t = some (.slice e) ∧ ∃ i v, P.info? e = some i ∧ i.size = n ∧ i.bytes = b ∧ i.zero = some v ∧
    v.cells.all plain = true ∧ v.cells.toList = z ∧ z.length = n ∧ 0 < n := by
  unfold tSlice at h
  split at h
  · rename_i e' hu
    split at h
    · rename_i i z' hi hz
      split at h
      · rename_i hc
        cases h
        obtain ⟨i', v, hi', hzv, hd, hp, hl⟩ := tZero_some hz
        rw [hi] at hi'
        cases hi'
        exact ⟨hu, i, v, hi, rfl, rfl, hzv, hp, hl, hc.1, hc.2⟩
      · cases h
    · cases h
  · cases h

/-- ALL OPERATIONS THAT MAKE A BLOCK. -/
theorem new_sim {n : Nat} {o : Oper} {ρ ρ' : Operand → Value} {x : AObj} {nk : NewV} (hc : cls o.op = .a) (hρ : ∀ x, VR n J false (ρ x) (ρ' x)) (h : newA P o.op ρ = some (x, nk)) :
    nk.Ok ∧ ∃ ob, NewR n J x ob ∧ ∀ w : World, (execOp ρ' o).run P w = .ok (.value (nk.val w.heap.size)) (w.alloc ob) := by
  obtain ⟨dst, op, type, pos, after, guard⟩ := o
  cases op <;> simp only [cls] at hc <;> simp only [newA] at h <;> simp only [execOp]
  case alloc t =>
    cases hz : tZero P t with
    | none => rw [hz] at h; cases h
    | some z =>
      rw [hz] at h
      simp only [zeroN, Option.map_some, Option.some.injEq, Prod.mk.injEq] at h
      obtain ⟨rfl, rfl⟩ := h
      obtain ⟨i, v, hi, hzv, hd, hp, hl⟩ := tZero_some hz
      refine ⟨trivial, .cells v.cells t, ⟨rfl, v.cells, t, rfl, ?_⟩, fun w => by simp [Instr.alloc, run_zeroValue hi hzv, newVar, newRow, NewV.val]⟩
      rw [← hl]; simpa using VRa.plain hp
  case box t a =>
    unfold boxN at h
    split at h
    · rename_i hd
      cases h
      obtain ⟨h1, h2⟩ := (hρ a).cells hd
      exact ⟨trivial, .cells (ρ' a).cells t, ⟨rfl, _, t, rfl, by simpa using ⟨h1, h2⟩⟩, fun w => by simp [Instr.box, newVar, newRow, NewV.val]⟩
    · cases h
  case buildSlice t len parts =>
    rw [mapP_eq] at h
    unfold bslN at h
    split at h
    · rename_i e m b z hs
      obtain ⟨hu, i, v, hi, hsz, hb, hzv, hp, hl, hzl, hpos⟩ := tSlice_some hs
      split at h
      · rename_i hle
        cases hf : fillV (fun i => some (i * m, m)) (zeros z (len * m)) (parts.map fun p => (p.1, ρ p.2)) with
        | none => rw [hf] at h; cases h
        | some l =>
          rw [hf] at h
          cases h
          obtain ⟨r', h1, h2⟩ := fillV_rel (n := n) (J := J) (ps' := parts.map fun (i, x) => (i, ρ' x)) hf (by simp) (fun i x y hx hy => parts_rel hρ i x y hx hy) (zeros_rel (J := J) (n := n) hl hp (len * m))
          have hlen : len ≤ len * m := Nat.le_mul_of_pos_right _ hpos
          refine ⟨⟨Nat.le_refl _, by omega⟩, .cells r' e, ⟨rfl, r', e, rfl, h2⟩, fun w => ?_⟩
          have hnot : ¬ (16777216 < len * m) := by omega
          have hps : (parts.map fun (i, x) => (i, ρ' x)).toList = List.map (fun x => (x.fst, ρ' x.snd)) parts.toList := by simp
          rw [hps] at h1
          by_cases h0 : len * m = 0
          · have e0 : Array.map (fun _ => (default : Value)) (Array.range (len * m)) = madeCells v.cells (len * m) := by rw [h0]; simp [madeCells]
            rw [← e0] at h1
            simp only [h0] at h1
            simp [Instr.buildSlice, run_underlying hu, run_sizeOf hi, hsz, h0, h1, newRow, NewV.val]
          · have e0 : Array.map (fun x => v.cells[x % v.cells.size]!) (Array.range (len * m)) = madeCells v.cells (len * m) := rfl
            rw [← e0] at h1
            simp [Instr.buildSlice, run_underlying hu, run_sizeOf hi, hsz, hnot, h0, run_zeroValue hi hzv, h1, newRow, NewV.val]
      · cases h
    · cases h
  case makeMap t r =>
    unfold mapN at h
    split at h
    · rename_i hm
      have hu : ∃ k e, P.underlying t = some (.map k e) := by
        unfold tIsMap at hm
        split at hm
        · exact ⟨_, _, by assumption⟩
        · cases hm
      obtain ⟨k, e, hu⟩ := hu
      cases r with
      | none => cases h; exact ⟨trivial, .map #[] 0, ⟨rfl, rfl⟩, fun w => by simp [Instr.makeMap, NewV.val]⟩
      | some r =>
        simp only [Option.map_some] at h
        cases hi : intOf? (ρ r) with
        | none => rw [hi] at h; cases h
        | some q =>
          rw [hi] at h
          cases h
          have : ∃ k, ρ r = .int k q := by cases hr : ρ r <;> rw [hr] at hi <;> simp [intOf?] at hi; rw [hi]; exact ⟨_, rfl⟩
          obtain ⟨kk, hr⟩ := this
          have hr' := hρ r
          rw [hr] at hr'
          refine ⟨trivial, .map #[] 0, ⟨rfl, rfl⟩, fun w => ?_⟩
          simp [Instr.makeMap, run_underlying hu, hr'.int_inv, asInt, asIntOf, NewV.val]
    · cases h
  case makeSlice t l c =>
    unfold mslN at h
    split at h
    · rename_i e m b z l' c' hs hl' hc'
      obtain ⟨hu, i, v, hi, hsz, hb, hzv, hp, hl, hzl, hpos⟩ := tSlice_some hs
      split at h
      · rename_i hcond
        cases h
        have hlv : ∃ k, ρ l = .int k l' := by cases hr : ρ l <;> rw [hr] at hl' <;> simp [intOf?] at hl'; rw [hl']; exact ⟨_, rfl⟩
        have hcv : ∃ k, ρ c = .int k c' := by cases hr : ρ c <;> rw [hr] at hc' <;> simp [intOf?] at hc'; rw [hc']; exact ⟨_, rfl⟩
        obtain ⟨kl, e1⟩ := hlv
        obtain ⟨kc, e2⟩ := hcv
        have r1 := hρ l
        have r2 := hρ c
        rw [e1] at r1
        rw [e2] at r2
        refine ⟨⟨by omega, by omega⟩, .cells (madeCells v.cells (c'.toNat * m)) e, ⟨rfl, _, e, rfl, zeros_rel hl hp _⟩, fun w => ?_⟩
        rw [r1.int_inv, r2.int_inv]
        have hbc : (i.bytes : Int) * c' ≤ 281474976710656 := by
          have : ((b * c'.toNat : Nat) : Int) ≤ 140737488355328 := by omega
          rw [Int.natCast_mul, Int.toNat_of_nonneg (by omega), ← hb] at this
          omega
        have hr := run_make (P := P) w t e i v hu hi hzv kl kc l' c' hcond.1 hcond.2.1 hbc (by omega)
        simp [hr, NewV.val, hsz]
      · cases h
    · cases h
  all_goals (first | (cases h; done) | (cases hc; done))

end Go.Zz
