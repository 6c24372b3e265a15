/- Operations that only reckon: what the calculus reckons is what the machine reckons. -/
import Derived.Test.YtcjoihkdaoflfaaGreatC
import Derived.Laws.MakeOwn
set_option linter.all false
namespace Go.Zz
open Go

variable {n : Nat} {J : Nat → Plc} {o : Bool} {x y : Value}

theorem VR.bool_inv {b : Bool} (h : VR n J o (.bool b) y) : y = .bool b := by
  generalize hx : Value.bool b = x at h
  induction h <;> first | (cases hx; rfl) | (unfold undef at hx; cases hx; done) | (rename_i ih; exact ih hx) | (cases hx; done)
theorem VR.int_inv {k : IntKind} {i : Int} (h : VR n J o (.int k i) y) : y = .int k i := by
  generalize hx : Value.int k i = x at h
  induction h <;> first | (cases hx; rfl) | (unfold undef at hx; cases hx; done) | (rename_i ih; exact ih hx) | (cases hx; done)
theorem VR.string_inv {s : ByteArray} (h : VR n J o (.string s) y) : y = .string s := by
  generalize hx : Value.string s = x at h
  induction h <;> first | (cases hx; rfl) | (unfold undef at hx; cases hx; done) | (rename_i ih; exact ih hx) | (cases hx; done)
theorem VR.nilPtr_inv (h : VR n J o (.pointer none) y) : y = .pointer none := by
  generalize hx : Value.pointer none = x at h
  induction h <;> first | (cases hx; rfl) | (unfold undef at hx; cases hx; done) | (rename_i ih; exact ih hx) | (cases hx; done)
theorem VR.ptr_inv {a : Addr} (h : VR n J o (.pointer (some a)) y) : a.block < n ∧ a.spot = none ∧ y = .pointer (some (tr (J a.block) a)) := by
  generalize hx : Value.pointer (some a) = x at h
  induction h <;> first | (cases hx; rename_i h1 h2; exact ⟨h1, h2, rfl⟩) | (unfold undef at hx; cases hx; done) | (rename_i ih; exact ih hx) | (cases hx; done)
theorem VR.nilSlice_inv {l c : Nat} (h : VR n J o (.slice none l c) y) : l = 0 ∧ c = 0 ∧ y = .slice none 0 0 := by
  generalize hx : Value.slice none l c = x at h
  induction h <;> first | (cases hx; exact ⟨rfl, rfl, rfl⟩) | (unfold undef at hx; cases hx; done) | (rename_i ih; exact ih hx) | (cases hx; done)
theorem VR.slice_inv {a : Addr} {l c : Nat} (h : VR n J o (.slice (some a) l c) y) : ∃ a' c', y = .slice (some a') l c' ∧ a.block < n ∧ a.spot = none ∧ l ≤ c' ∧ c' ≤ 9223372036854775807 ∧
    (c' = 0 ∨ a' = tr (J a.block) a) ∧ (c = c' ∨ (c = top + (J a.block).w ∧ 0 < (J a.block).w ∧ a.off + c' * (J a.block).w = (J a.block).ext)) := by
  generalize hx : Value.slice (some a) l c = x at h
  induction h with
  | slice h1 h2 h3 h4 h5 h6 => cases hx; exact ⟨_, _, rfl, h1, h2, h3, h4, h5, h6⟩
  | one _ ih => exact ih hx
  | dc1 _ => unfold undef at hx; cases hx
  | dc => unfold undef at hx; cases hx
  | _ => cases hx
theorem VR.nilMap_inv (h : VR n J o (.map none) y) : y = .map none := by
  generalize hx : Value.map none = x at h
  induction h <;> first | (cases hx; rfl) | (unfold undef at hx; cases hx; done) | (rename_i ih; exact ih hx) | (cases hx; done)
theorem VR.map_inv {r : Nat} (h : VR n J o (.map (some r)) y) : r < n ∧ y = .map (some (J r).cb) := by
  generalize hx : Value.map (some r) = x at h
  induction h <;> first | (cases hx; rename_i h1; exact ⟨h1, rfl⟩) | (unfold undef at hx; cases hx; done) | (rename_i ih; exact ih hx) | (cases hx; done)
theorem VR.nilFunc_inv (h : VR n J o .nilFunc y) : y = .nilFunc := by
  generalize hx : Value.nilFunc = x at h
  induction h <;> first | (cases hx; rfl) | (unfold undef at hx; cases hx; done) | (rename_i ih; exact ih hx) | (cases hx; done)
theorem VR.func_inv {f : Fn} {fs cs : Array Value} (h : VR n J o (.func f fs cs) y) : ∃ g cs', f = .func g ∧ fs = #[] ∧ y = .func (.func g) #[] cs' ∧ cs.size = cs'.size ∧
    (∀ (i : Nat) (x y : Value), cs[i]? = some x → cs'[i]? = some y → VR n J true x y) := by
  generalize hx : Value.func f fs cs = x at h
  induction h <;> first | (cases hx; rename_i h1 h2 h3 _; subst h1; exact ⟨_, _, rfl, rfl, rfl, h2, h3⟩) | (unfold undef at hx; cases hx; done) | (rename_i ih; exact ih hx) | (cases hx; done)
theorem VR.skip_inv (h : VR n J o (.chan none) y) : y = undef := by
  generalize hx : Value.chan none = x at h
  induction h <;> first | (cases hx; rfl) | (unfold undef at hx; cases hx; done) | (rename_i ih; exact ih hx) | (cases hx; done)
theorem VR.nilIface_inv (h : VR n J o .nilIface y) : y = .nilIface := by
  generalize hx : Value.nilIface = x at h
  induction h <;> first | (cases hx; rfl) | (unfold undef at hx; cases hx; done) | (rename_i ih; exact ih hx) | (cases hx; done)
theorem VR.iface_inv {t : TypeId} {u : Value} (h : VR n J o (.iface t u) y) : ∃ u', y = .iface t u' ∧ VR n J false u u' ∧ data u = true := by
  generalize hx : Value.iface t u = x at h
  induction h <;> first | (cases hx; rename_i h1 h2 h3 _; exact ⟨_, rfl, h1, by cases hu : (u) <;> first | rfl | exact absurd hu (h2 _) | exact absurd hu (h3 _)⟩) | (unfold undef at hx; cases hx; done) | (rename_i ih; exact ih hx) | (cases hx; done)
theorem VR.agg_inv {cs : Array Value} (h : VR n J o (.agg cs) y) : ∃ cs', y = .agg cs' ∧ cs.size = cs'.size ∧ (∀ (i : Nat) (x y : Value), cs[i]? = some x → cs'[i]? = some y → VR n J true x y) := by
  generalize hx : Value.agg cs = x at h
  induction h <;> first | (cases hx; rename_i h1 h2 _; exact ⟨_, rfl, h1, h2⟩) | (unfold undef at hx; cases hx; done) | (rename_i ih; exact ih hx) | (cases hx; done)
theorem VR.tuple_inv {cs : Array Value} (h : VR n J false (.tuple cs) y) (h0 : cs.size ≠ 0) : ∃ cs', y = .tuple cs' ∧ cs.size = cs'.size ∧ (∀ (i : Nat) (x y : Value), cs[i]? = some x → cs'[i]? = some y → VR n J false x y) := by
  generalize hx : Value.tuple cs = x at h
  generalize ho : false = o at h
  induction h with
  | tuple h1 h2 _ => cases hx; exact ⟨_, rfl, h1, h2⟩
  | dc => unfold undef at hx; cases hx; simp at h0
  | dc1 _ => cases ho
  | one h _ =>
    rename_i x y
    clear ho
    generalize ho : true = o at h
    cases h <;> first | (cases hx; done) | (unfold undef at hx; cases hx; simp at h0) | (cases ho)
  | _ => cases hx

/-- The cells of what is no tuple. -/
theorem VR.cells (h : VR n J false x y) (hd : data x = true) : x.cells.size = y.cells.size ∧ ∀ (i : Nat) (u v : Value), x.cells[i]? = some u → y.cells[i]? = some v → VR n J true u v := by
  generalize ho : false = o at h
  cases h with
  | dc => simp [undef, data] at hd
  | skip => simp [data] at hd
  | one h =>
    have hx : x.cells = #[x] := by
      clear ho
      generalize ho : true = o at h
      cases h <;> first | rfl | cases ho
    have hy : y.cells = #[y] := by
      have := h.one_right
      cases y <;> first | rfl | (simp [Value.oneCell'] at this)
    rw [hx, hy]
    refine ⟨rfl, fun i u v hu hv => ?_⟩
    cases i with
    | zero => simp at hu hv; rw [← hu, ← hv]; exact h
    | succ i => simp at hu
  | agg h1 h2 => exact ⟨h1, h2⟩
  | tuple h1 h2 => simp [data] at hd
  | _ => cases ho

theorem VR.data_right (h : VR n J false x y) (hd : data x = true) : ∀ vs, y ≠ .tuple vs := by
  intro vs hy
  subst hy
  generalize ho : false = o at h
  generalize hy : Value.tuple vs = y at h
  cases h with
  | dc => simp [undef, data] at hd
  | skip => simp [data] at hd
  | one h => rw [← hy] at h; have := h.one_right; simp [Value.oneCell'] at this
  | agg _ _ => cases hy
  | tuple _ _ => simp [data] at hd
  | _ => cases ho

theorem VR.plain (h : plain x = true) : VR n J true x x := by
  cases x with
  | bool b => exact .bool b
  | int k i => exact .int k i
  | float k i => exact .float k i
  | string s => exact .string s
  | pointer a => cases a with
    | none => exact .nilPtr
    | some a => simp [Zz.plain] at h
  | slice a l c =>
    cases a with
    | none =>
      cases l <;> cases c <;> simp [Zz.plain] at h
      exact .nilSlice
    | some a => simp [Zz.plain] at h
  | map r => cases r with
    | none => exact .nilMap
    | some r => simp [Zz.plain] at h
  | nilFunc => exact .nilFunc
  | nilIface => exact .nilIface
  | func f a b =>
    cases f <;> simp [Zz.plain] at h
    obtain ⟨rfl, rfl⟩ := h
    exact .func rfl rfl (fun i x y hx _ => by simp at hx)
  | _ => simp [Zz.plain] at h

theorem VR.const (v : Value) : VR n J false (const v) v := by
  unfold Zz.const
  split
  · rename_i cs
    split
    · rename_i h
      refine .agg rfl (fun i x y hx hy => ?_)
      rw [hx] at hy
      cases hy
      exact .plain (Array.all_eq_true'.1 h x (Array.mem_of_getElem? hx))
    · exact .dc
  · exact .dc
  · split
    · rename_i h; exact .one (.plain h)
    · exact .dc

/-- A frame stands to an abstract one. -/
def VRf (N n : Nat) (J : Nat → Plc) (A : Fr) (t : Array Value) : Prop := t.size = N ∧ ∀ i, VR n J false (A i) (t.getD i undef)

theorem VRf.mono {N n n' : Nat} {J J' : Nat → Plc} (hn : n ≤ n') (hJ : ∀ b, b < n → J' b = J b) {A : Fr} {t : Array Value} (h : VRf N n J A t) : VRf N n' J' A t :=
  ⟨h.1, fun i => (h.2 i).mono hn hJ⟩
theorem setV_self (A : Nat → Value) (d : Nat) (v : Value) : setV A d v d = v := by simp [setV]
theorem setV_other (A : Nat → Value) {d i : Nat} (h : d ≠ i) (v : Value) : setV A d v i = A i := by
  unfold setV
  split
  · rename_i hb; exact absurd (Nat.eq_of_beq_eq_true hb).symm h
  · rfl

/-- Operands. -/
theorem opd_sim {G N : Nat} {s : St} {w : World} (hS : Sim G s J w) {A : Fr} {a : Act} (h : VRf N s.next J A a.tmps) (x : Operand) (hG : 1000 ≤ G) :
    VR s.next J false (opd A x) (a.eval x) := by
  cases x with
  | tmp t => exact h.2 t
  | const v => exact .const v
  | global g =>
    simp only [opd]
    split <;> rename_i hlt
    case isFalse => exact .dc
    have hlt : g < 1000 := by simpa using hlt
    obtain ⟨h1, h2, h3⟩ := hS.glob g (by omega)
    have : (⟨g, 0, none⟩ : Addr) = tr (J g) ⟨g, 0, none⟩ := by simp [tr, h2, h3]
    simp only [Act.eval]
    conv => arg 5; rw [this]
    exact .one (.ptr h1 rfl)
  | func f => exact .one (.func rfl rfl (fun i x y hx _ => by simp at hx))

end Go.Zz
