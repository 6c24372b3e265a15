/- An abstract heap, and how it stands to the machine's memory: definitions and first facts. -/
import Derived.CallsIn
import Derived.Laws.Entries
set_option linter.all false
namespace Go.Zz
open Go

/-- What lies in a block of the abstract heap. 'tail': the row may go on behind these cells in the machine's memory. -/
inductive AObj where
  | cells (vs : List Value) (tail : Bool)
  | map (es : List (Value × Value))

structure St where
  heap : Nat → Option AObj
  next : Nat

/-- Where a block lies in the machine's memory: the block, the first cell, how many cells from there on, an element's width. -/
structure Plc where
  cb : Nat
  k : Nat
  ext : Nat
  w : Nat

/-- 'top + w': the capacity of a slice of elements of w cells that goes to the end of its row. -/
def top : Nat := 18446744073709551616

def tr (m : Plc) (a : Addr) : Addr := ⟨m.cb, m.k + a.off, none⟩

/-- 'VR n J one x y': the abstract value x stands for the machine's value y; one: it is of one cell. -/
inductive VR (n : Nat) (J : Nat → Plc) : Bool → Value → Value → Prop
  | dc1 {y : Value} : y.oneCell' = true → VR n J true undef y
  | bool (b : Bool) : VR n J true (.bool b) (.bool b)
  | int (k : IntKind) (i : Int) : VR n J true (.int k i) (.int k i)
  | float (k : FloatKind) (i : Nat) : VR n J true (.float k i) (.float k i)
  | string (s : ByteArray) : VR n J true (.string s) (.string s)
  | nilPtr : VR n J true (.pointer none) (.pointer none)
  | ptr {a : Addr} : a.block < n → a.spot = none → VR n J true (.pointer (some a)) (.pointer (some (tr (J a.block) a)))
  | nilSlice : VR n J true (.slice none 0 0) (.slice none 0 0)
  | slice {a a' : Addr} {l c c' : Nat} : a.block < n → a.spot = none → l ≤ c' → c' ≤ 9223372036854775807 → (c' = 0 ∨ a' = tr (J a.block) a) →
      (c = c' ∨ (c = top + (J a.block).w ∧ 0 < (J a.block).w ∧ a.off + c' * (J a.block).w = (J a.block).ext)) → VR n J true (.slice (some a) l c) (.slice (some a') l c')
  | nilMap : VR n J true (.map none) (.map none)
  | map {r : Nat} : r < n → VR n J true (.map (some r)) (.map (some (J r).cb))
  | nilFunc : VR n J true .nilFunc .nilFunc
  | func {f : FuncId} {first captured captured' : Array Value} : first = #[] → captured.size = captured'.size →
      (∀ (i : Nat) (x y : Value), captured[i]? = some x → captured'[i]? = some y → VR n J true x y) → VR n J true (.func (.func f) first captured) (.func (.func f) first captured')
  | nilIface : VR n J true .nilIface .nilIface
  | iface {t : TypeId} {x y : Value} : VR n J false x y → (∀ vs, x ≠ .tuple vs) → (∀ r, x ≠ .chan r) → VR n J true (.iface t x) (.iface t y)
  | dc {y : Value} : VR n J false undef y
  | skip : VR n J false (.chan none) undef   -- nothing was reckoned
  | one {x y : Value} : VR n J true x y → VR n J false x y
  | agg {cs cs' : Array Value} : cs.size = cs'.size → (∀ (i : Nat) (x y : Value), cs[i]? = some x → cs'[i]? = some y → VR n J true x y) → VR n J false (.agg cs) (.agg cs')
  | tuple {cs cs' : Array Value} : cs.size = cs'.size → (∀ (i : Nat) (x y : Value), cs[i]? = some x → cs'[i]? = some y → VR n J false x y) → VR n J false (.tuple cs) (.tuple cs')

/-- All addresses in a value are of blocks below n. -/
inductive Bel (n : Nat) : Value → Prop
  | undef : Bel n undef
  | bool (b : Bool) : Bel n (.bool b)
  | int (k : IntKind) (i : Int) : Bel n (.int k i)
  | float (k : FloatKind) (i : Nat) : Bel n (.float k i)
  | string (s : ByteArray) : Bel n (.string s)
  | nilPtr : Bel n (.pointer none)
  | ptr {a : Addr} : a.block < n → Bel n (.pointer (some a))
  | nilSlice (l c : Nat) : Bel n (.slice none l c)
  | slice {a : Addr} {l c : Nat} : a.block < n → Bel n (.slice (some a) l c)
  | nilMap : Bel n (.map none)
  | map {r : Nat} : r < n → Bel n (.map (some r))
  | nilFunc : Bel n .nilFunc
  | func {f : Fn} {first captured : Array Value} : (∀ (i : Nat) (x : Value), captured[i]? = some x → Bel n x) → Bel n (.func f first captured)
  | nilIface : Bel n .nilIface
  | iface {t : TypeId} {x : Value} : Bel n x → Bel n (.iface t x)
  | agg {cs : Array Value} : (∀ (i : Nat) (x : Value), cs[i]? = some x → Bel n x) → Bel n (.agg cs)
  | tuple {cs : Array Value} : (∀ (i : Nat) (x : Value), cs[i]? = some x → Bel n x) → Bel n (.tuple cs)
  | skip : Bel n (.chan none)

theorem VR.bel {n : Nat} {J : Nat → Plc} {o : Bool} {x y : Value} (h : VR n J o x y) : Bel n x := by
  have lift : ∀ {cs cs' : Array Value}, cs.size = cs'.size → (∀ (i : Nat) (x y : Value), cs[i]? = some x → cs'[i]? = some y → Bel n x) → ∀ (i : Nat) (x : Value), cs[i]? = some x → Bel n x := by
    intro cs cs' hs h i x hx
    have hi : i < cs'.size := by rw [← hs]; exact (Array.getElem?_eq_some_iff.1 hx).1
    exact h i x _ hx (Array.getElem?_eq_getElem hi)
  induction h with
  | dc1 _ => exact .undef
  | bool b => exact .bool b
  | int k i => exact .int k i
  | float k i => exact .float k i
  | string s => exact .string s
  | nilPtr => exact .nilPtr
  | ptr h _ => exact .ptr h
  | nilSlice => exact .nilSlice _ _
  | slice h _ _ _ _ => exact .slice h
  | nilMap => exact .nilMap
  | map h => exact .map h
  | nilFunc => exact .nilFunc
  | func _ hs _ ih => exact .func (lift hs ih)
  | nilIface => exact .nilIface
  | iface _ _ _ ih => exact .iface ih
  | dc => exact .undef
  | skip => exact .skip
  | one _ ih => exact ih
  | agg hs _ ih => exact .agg (lift hs ih)
  | tuple hs _ ih => exact .tuple (lift hs ih)

/-- The same value under another map of the blocks, where both agree below n. -/
theorem VR.mono {n n' : Nat} {J J' : Nat → Plc} (hn : n ≤ n') (hJ : ∀ b, b < n → J' b = J b) {o : Bool} {x y : Value} (h : VR n J o x y) : VR n' J' o x y := by
  induction h with
  | dc1 h => exact .dc1 h
  | bool b => exact .bool b
  | int k i => exact .int k i
  | float k i => exact .float k i
  | string s => exact .string s
  | nilPtr => exact .nilPtr
  | ptr h hs => rw [← hJ _ h]; exact .ptr (Nat.lt_of_lt_of_le h hn) hs
  | nilSlice => exact .nilSlice
  | slice h hs hl hc ha hcap => rw [← hJ _ h] at ha hcap; exact .slice (Nat.lt_of_lt_of_le h hn) hs hl hc ha hcap
  | nilMap => exact .nilMap
  | map h => rw [← hJ _ h]; exact .map (Nat.lt_of_lt_of_le h hn)
  | nilFunc => exact .nilFunc
  | func hf hs _ ih => exact .func hf hs ih
  | nilIface => exact .nilIface
  | iface _ ht hr ih => exact .iface ih ht hr
  | dc => exact .dc
  | skip => exact .skip
  | one _ ih => exact .one ih
  | agg hs _ ih => exact .agg hs ih
  | tuple hs _ ih => exact .tuple hs ih

/-- Back to the blocks below n, for a value that has no others. -/
theorem VR.down {n n' : Nat} {J J' : Nat → Plc} (hJ : ∀ b, b < n → J' b = J b) {o : Bool} {x y : Value} (h : VR n' J' o x y) (hb : Bel n x) : VR n J o x y := by
  induction h with
  | dc1 h => exact .dc1 h
  | bool b => exact .bool b
  | int k i => exact .int k i
  | float k i => exact .float k i
  | string s => exact .string s
  | nilPtr => exact .nilPtr
  | ptr h hs => cases hb with | ptr hb => rw [hJ _ hb]; exact .ptr hb hs
  | nilSlice => exact .nilSlice
  | slice h hs hl hc ha hcap => cases hb with | slice hb => rw [hJ _ hb] at ha hcap; exact .slice hb hs hl hc ha hcap
  | nilMap => exact .nilMap
  | map h => cases hb with | map hb => rw [hJ _ hb]; exact .map hb
  | nilFunc => exact .nilFunc
  | func hf hs _ ih => cases hb with | func hb => exact .func hf hs (fun i x y hx hy => ih i x y hx hy (hb i x hx))
  | nilIface => exact .nilIface
  | iface _ ht hr ih => cases hb with | iface hb => exact .iface (ih hb) ht hr
  | dc => exact .dc
  | skip => exact .skip
  | one _ ih => exact .one (ih hb)
  | agg hs _ ih => cases hb with | agg hb => exact .agg hs (fun i x y hx hy => ih i x y hx hy (hb i x hx))
  | tuple hs _ ih =>
    refine .tuple hs (fun i x y hx hy => ih i x y hx hy ?_)
    generalize ht : Value.tuple _ = t at hb
    cases hb with
    | tuple hb => cases ht; exact hb i x hx
    | undef => unfold undef at ht; cases ht; simp at hx
    | _ => cases ht

theorem VR.one_right {n : Nat} {J : Nat → Plc} {x y : Value} (h : VR n J true x y) : y.oneCell' = true := by
  generalize ho : true = o at h
  cases h <;> first | rfl | assumption | cases ho

/-- The block's cells, as the machine has them. -/
def ObjR (n : Nat) (J : Nat → Plc) (m : Plc) (w : World) : AObj → Prop
  | .cells vs tail => vs.length ≤ m.ext ∧ (tail = false → vs.length = m.ext) ∧ ∃ c e fr, w.heap[m.cb]? = some (.cells c e fr) ∧ m.k + m.ext ≤ c.size ∧
      (∀ (i : Nat) (x : Value), vs[i]? = some x → ∃ y, c[m.k + i]? = some y ∧ VR n J true x y) ∧
      (∀ i, i < m.ext → ∃ y, c[m.k + i]? = some y ∧ y.oneCell' = true) ∧ (∀ i, i < m.ext → ¬ (fr.1 ≤ m.k + i ∧ m.k + i < fr.2)) ∧ (tail = true → fr = (0, 0))
  | .map es => ∃ es' clock, w.heap[m.cb]? = some (.map es' clock) ∧ es.length = es'.size ∧
      (∀ (i : Nat) (x : Value × Value) (y : MapEntry), es[i]? = some x → es'[i]? = some y → VR n J false x.1 y.key ∧ VR n J false x.2 y.val) ∧
      (∀ (i : Nat) (y : MapEntry), es'[i]? = some y → y.born < clock) ∧ (∀ (i j : Nat) (y z : MapEntry), i < j → es'[i]? = some y → es'[j]? = some z → y.born < z.born)

/-- Does a block of the abstract heap have this cell of the machine's? -/
def Owns (m : Plc) : AObj → Nat → Nat → Prop
  | .cells _ _, cb, o => m.cb = cb ∧ m.k ≤ o ∧ o < m.k + m.ext
  | .map _, cb, _ => m.cb = cb

def Owned (s : St) (J : Nat → Plc) (cb o : Nat) : Prop := ∃ b x, s.heap b = some x ∧ Owns (J b) x cb o

structure Sim (G : Nat) (s : St) (J : Nat → Plc) (w : World) : Prop where
  live : ∀ b x, s.heap b = some x → b < s.next
  obj : ∀ b x, s.heap b = some x → ObjR s.next J (J b) w x
  apart : ∀ b b' x x' cb o, b ≠ b' → s.heap b = some x → s.heap b' = some x' → Owns (J b) x cb o → ¬ Owns (J b') x' cb o
  glob : ∀ g, g < G → g < s.next ∧ (J g).cb = g ∧ (J g).k = 0

/-- What has become of the memory: blocks keep their places; what is owned by none stays as it was. -/
structure Step (s : St) (J : Nat → Plc) (w : World) (s' : St) (J' : Nat → Plc) (w' : World) : Prop where
  le : s.next ≤ s'.next
  ext : ∀ b, b < s.next → J' b = J b
  size : w.heap.size ≤ w'.heap.size
  os : w'.os = w.os
  out : w'.output = w.output
  tape : w'.tape = w.tape ∧ w.drawn ≤ w'.drawn
  free : ∀ cb o, cb < w.heap.size → ¬ Owned s J cb o → ¬ Owned s' J' cb o
  row : ∀ cb c e f, w.heap[cb]? = some (.cells c e f) → ∃ c', w'.heap[cb]? = some (.cells c' e f) ∧ c'.size = c.size ∧ ∀ o, ¬ Owned s J cb o → c'[o]? = c[o]?
  other : ∀ cb x, w.heap[cb]? = some x → (∀ c e f, x ≠ .cells c e f) → (∀ o, ¬ Owned s J cb o) → w'.heap[cb]? = some x

theorem Step.refl (s : St) (J : Nat → Plc) (w : World) : Step s J w s J w :=
  ⟨Nat.le_refl _, fun _ _ => rfl, Nat.le_refl _, rfl, rfl, ⟨rfl, Nat.le_refl _⟩, fun _ _ _ h => h, fun _ c _ _ h => ⟨c, h, rfl, fun _ _ => rfl⟩, fun _ _ h _ _ => h⟩

theorem Step.trans {s s' s'' : St} {J J' J'' : Nat → Plc} {w w' w'' : World} (h : Step s J w s' J' w') (h' : Step s' J' w' s'' J'' w'') : Step s J w s'' J'' w'' where
  le := Nat.le_trans h.le h'.le
  ext b hb := (h'.ext b (Nat.lt_of_lt_of_le hb h.le)).trans (h.ext b hb)
  size := Nat.le_trans h.size h'.size
  os := h'.os.trans h.os
  out := h'.out.trans h.out
  tape := ⟨h'.tape.1.trans h.tape.1, Nat.le_trans h.tape.2 h'.tape.2⟩
  free cb o hc hn := h'.free cb o (Nat.lt_of_lt_of_le hc h.size) (h.free cb o hc hn)
  row cb c e f hc := by
    have hlt : cb < w.heap.size := (Array.getElem?_eq_some_iff.1 hc).1
    obtain ⟨c1, h1, s1, k1⟩ := h.row cb c e f hc
    obtain ⟨c2, h2, s2, k2⟩ := h'.row cb c1 e f h1
    exact ⟨c2, h2, s2.trans s1, fun o ho => (k2 o (h.free cb o hlt ho)).trans (k1 o ho)⟩
  other cb x hx hn ho := by
    have hlt : cb < w.heap.size := (Array.getElem?_eq_some_iff.1 hx).1
    exact h'.other cb x (h.other cb x hx hn ho) hn (fun o => h.free cb o hlt (ho o))

theorem Sim.drew {G : Nat} {s : St} {J : Nat → Plc} {w : World} (h : Sim G s J w) : Sim G s J w.drew := ⟨h.live, h.obj, h.apart, h.glob⟩
theorem Step.drew (s : St) (J : Nat → Plc) (w : World) : Step s J w s J w.drew :=
  ⟨Nat.le_refl _, fun _ _ => rfl, Nat.le_refl _, rfl, rfl, ⟨rfl, Nat.le_succ _⟩, fun _ _ _ h => h, fun _ c _ _ h => ⟨c, h, rfl, fun _ _ => rfl⟩, fun _ _ h _ _ => h⟩

/-- Frames, pointwise. -/
def VRs (n : Nat) (J : Nat → Plc) (A : List Value) (tmps : Array Value) : Prop :=
  A.length = tmps.size ∧ ∀ (i : Nat) (x y : Value), A[i]? = some x → tmps[i]? = some y → VR n J false x y

theorem VRs.mono {n n' : Nat} {J J' : Nat → Plc} (hn : n ≤ n') (hJ : ∀ b, b < n → J' b = J b) {A : List Value} {t : Array Value} (h : VRs n J A t) : VRs n' J' A t :=
  ⟨h.1, fun i x y hx hy => (h.2 i x y hx hy).mono hn hJ⟩

theorem VRs.get {n : Nat} {J : Nat → Plc} {A : List Value} {t : Array Value} (h : VRs n J A t) (i : Nat) : VR n J false (A.getD i undef) (t.getD i undef) := by
  by_cases hi : i < A.length
  · have ht : i < t.size := by rw [← h.1]; exact hi
    rw [List.getD_eq_getElem?_getD, List.getElem?_eq_getElem hi, Array.getD_eq_getD_getElem?, Array.getElem?_eq_getElem ht]
    exact h.2 i _ _ (List.getElem?_eq_getElem hi) (Array.getElem?_eq_getElem ht)
  · rw [List.getD_eq_getElem?_getD, List.getElem?_eq_none (by omega)]
    exact .dc

theorem VRs.set {n : Nat} {J : Nat → Plc} {A : List Value} {t : Array Value} (h : VRs n J A t) (d : Nat) {x y : Value} (hv : VR n J false x y) : VRs n J (A.set d x) (t.setIfInBounds d y) := by
  refine ⟨by simp [h.1], fun i u v hu hv' => ?_⟩
  rw [List.getElem?_set] at hu
  rw [Array.getElem?_setIfInBounds] at hv'
  by_cases hd : d = i
  · subst hd
    rw [h.1] at hu
    split at hu
    · rename_i hlt
      simp [hlt] at hv'
      simp at hu
      rw [← hu.2, ← hv'.2]
      exact hv
    · simp_all
  · simp [hd] at hu hv'
    exact h.2 i u v hu hv'

end Go.Zz
