/- What the abstract heap's three turns (a new block, cells written, a map's entries) are in the machine's memory. -/
import Derived.Test.YtcjoihkdaoflfaaGreatA
import Derived.Laws.IdiomCopy
import Derived.Laws.Cells
set_option linter.all false
namespace Go.Zz
open Go

def St.alloc (s : St) (o : AObj) : St := { heap := fun b => if b = s.next then some o else s.heap b, next := s.next + 1 }
def St.put (s : St) (b : Nat) (o : AObj) : St := { heap := fun x => if x = b then some o else s.heap x, next := s.next }
def putJ (J : Nat → Plc) (b : Nat) (m : Plc) : Nat → Plc := fun x => if x = b then m else J x

/-- Cells written into a row: it may grow. -/
def lwr (vs : List Value) (o : Nat) (xs : List Value) : List Value := vs.take o ++ xs ++ vs.drop (o + xs.length)

theorem lwr_length {vs : List Value} {o : Nat} {xs : List Value} (h : o ≤ vs.length) : (lwr vs o xs).length = max vs.length (o + xs.length) := by
  simp [lwr]; omega
theorem lwr_length_same {vs : List Value} {o : Nat} {xs : List Value} (h : o + xs.length ≤ vs.length) : (lwr vs o xs).length = vs.length := by
  rw [lwr_length (by omega)]; omega
theorem lwr_get {vs : List Value} {o : Nat} {xs : List Value} (h : o ≤ vs.length) (i : Nat) :
    (lwr vs o xs)[i]? = if o ≤ i ∧ i < o + xs.length then xs[i - o]? else vs[i]? := by
  have ht : (vs.take o).length = o := by simp; omega
  unfold lwr
  by_cases h1 : i < o
  · rw [List.append_assoc, List.getElem?_append_left (by omega), List.getElem?_take_of_lt h1, if_neg (by omega)]
  · by_cases h2 : i < o + xs.length
    · rw [List.append_assoc, List.getElem?_append_right (by omega), List.getElem?_append_left (by omega), if_pos (by omega), ht]
    · rw [List.getElem?_append_right (by simp; omega), List.getElem?_drop, if_neg (by omega)]
      congr 1
      simp
      omega

def awr (c : Array Value) : Nat → List Value → Array Value
  | _, [] => c
  | o, v :: r => awr (c.setIfInBounds o v) (o + 1) r

theorem awr_size : ∀ (ys : List Value) (c : Array Value) (o : Nat), (awr c o ys).size = c.size
  | [], _, _ => rfl
  | v :: r, c, o => by rw [awr, awr_size r]; simp
theorem awr_get : ∀ (ys : List Value) (c : Array Value) (o i : Nat), o + ys.length ≤ c.size →
    (awr c o ys)[i]? = if o ≤ i ∧ i < o + ys.length then ys[i - o]? else c[i]?
  | [], c, o, i, _ => by simp [awr]; omega
  | v :: r, c, o, i, h => by
    simp at h
    rw [awr, awr_get r _ (o + 1) i (by simp; omega)]
    by_cases h1 : i = o
    · subst h1
      have hlt : i < c.size := by omega
      rw [if_neg (by omega), if_pos (by simp)]
      simp [Array.getElem?_setIfInBounds, hlt]
    · by_cases h2 : o + 1 ≤ i ∧ i < o + 1 + r.length
      · rw [if_pos h2, if_pos (by simp; omega), show i - o = (i - (o + 1)) + 1 by omega]
        simp
      · rw [if_neg h2, if_neg (by simp; omega), Array.getElem?_setIfInBounds]
        simp [Ne.symm h1]

theorem setCells_same : ∀ (ys : List Value) (w : World) (b o : Nat) (c : Array Value) (e : TypeId) (f : Nat × Nat), w.heap[b]? = some (.cells c e f) →
    (w.setCells b o ys).heap[b]? = some (.cells (awr c o ys) e f)
  | [], _, _, _, _, _, _, h => h
  | v :: r, w, b, o, c, e, f, h => by
    rw [World.setCells, awr]
    refine setCells_same r _ b (o + 1) _ e f ?_
    simp [World.setCell, Array.getElem?_modify, h]
theorem setCells_other : ∀ (ys : List Value) (w : World) (b o x : Nat), x ≠ b → (w.setCells b o ys).heap[x]? = w.heap[x]?
  | [], _, _, _, _, _ => rfl
  | v :: r, w, b, o, x, h => by
    rw [World.setCells, setCells_other r _ b (o + 1) x h]
    simp [World.setCell, Array.getElem?_modify, Ne.symm h]
theorem setCells_rest : ∀ (ys : List Value) (w : World) (b o : Nat), (w.setCells b o ys).heap.size = w.heap.size ∧ (w.setCells b o ys).os = w.os ∧ (w.setCells b o ys).output = w.output ∧ ((w.setCells b o ys).tape = w.tape ∧ w.drawn ≤ (w.setCells b o ys).drawn)
  | [], _, _, _ => ⟨rfl, rfl, rfl, rfl, Nat.le_refl _⟩
  | v :: r, w, b, o => by
    obtain ⟨h1, h2, h3, h4, h5⟩ := setCells_rest r (w.setCell ⟨b, o, none⟩ v) b (o + 1)
    rw [World.setCells]
    exact ⟨by rw [h1]; simp, by rw [h2]; rfl, by rw [h3]; rfl, by rw [h4]; rfl, Nat.le_trans (Nat.le_refl _) h5⟩

theorem ObjR.mono {n n' : Nat} {J J' : Nat → Plc} {m : Plc} {w w' : World} {x : AObj} (hn : n ≤ n') (hJ : ∀ b, b < n → J' b = J b)
    (hw : w'.heap[m.cb]? = w.heap[m.cb]?) (h : ObjR n J m w x) : ObjR n' J' m w' x := by
  cases x with
  | cells vs tail =>
    obtain ⟨h1, h2, c, e, fr, hc, hs, hv, ho, hf⟩ := h
    exact ⟨h1, h2, c, e, fr, hw.trans hc, hs, fun i x hx => let ⟨y, hy, hr⟩ := hv i x hx; ⟨y, hy, hr.mono hn hJ⟩, ho, hf⟩
  | map es =>
    obtain ⟨es', clock, hc, hs, hv, h1, h2⟩ := h
    exact ⟨es', clock, hw.trans hc, hs, fun i x y hx hy => let ⟨a, b⟩ := hv i x y hx hy; ⟨a.mono hn hJ, b.mono hn hJ⟩, h1, h2⟩

/-- Of a row it matters only what stands at its own places. -/
theorem ObjR.cells_of {n : Nat} {J : Nat → Plc} {m : Plc} {w w' : World} {vs : List Value} {tail : Bool} {c c' : Array Value} {e : TypeId} {fr : Nat × Nat}
    (hw : w.heap[m.cb]? = some (.cells c e fr)) (hw' : w'.heap[m.cb]? = some (.cells c' e fr)) (hs : c'.size = c.size)
    (hsame : ∀ i, i < m.ext → c'[m.k + i]? = c[m.k + i]?) (h : ObjR n J m w (.cells vs tail)) : ObjR n J m w' (.cells vs tail) := by
  obtain ⟨h1, h2, c0, e0, fr0, hc, hsz, hv, ho, hf⟩ := h
  rw [hw] at hc
  cases hc
  refine ⟨h1, h2, c', e, fr, hw', by omega, fun i x hx => ?_, fun i hi => ?_, hf⟩
  · obtain ⟨y, hy, hr⟩ := hv i x hx
    exact ⟨y, by rw [hsame i (Nat.lt_of_lt_of_le (List.getElem?_eq_some_iff.1 hx).1 h1)]; exact hy, hr⟩
  · obtain ⟨y, hy, hr⟩ := ho i hi
    exact ⟨y, by rw [hsame i hi]; exact hy, hr⟩

theorem ObjR.lt {n : Nat} {J : Nat → Plc} {m : Plc} {w : World} {x : AObj} (h : ObjR n J m w x) : m.cb < w.heap.size := by
  cases x with
  | cells vs tail => obtain ⟨_, _, c, e, fr, hc, _⟩ := h; exact (Array.getElem?_eq_some_iff.1 hc).1
  | map es => obtain ⟨es', clock, hc, _⟩ := h; exact (Array.getElem?_eq_some_iff.1 hc).1

theorem Owns.cb {m : Plc} {x : AObj} {cb o : Nat} (h : Owns m x cb o) : m.cb = cb := by cases x with
  | cells vs tail => exact h.1
  | map es => exact h

variable {G : Nat} {s : St} {J : Nat → Plc} {w : World}

/-- A new block. -/
theorem Sim.new (h : Sim G s J w) (x : AObj) (o : Obj) (m : Plc) (hm : m.cb = w.heap.size)
    (hx : ObjR (s.next + 1) (putJ J s.next m) m (w.alloc o) x) :
    Sim G (s.alloc x) (putJ J s.next m) (w.alloc o) ∧ Step s J w (s.alloc x) (putJ J s.next m) (w.alloc o) := by
  have hJ : ∀ b, b < s.next → putJ J s.next m b = J b := fun b hb => by simp [putJ, Nat.ne_of_lt hb]
  have hold : ∀ b y, s.heap b = some y → (J b).cb < w.heap.size := fun b y hy => (h.obj b y hy).lt
  have hheap : ∀ k, k < w.heap.size → (w.alloc o).heap[k]? = w.heap[k]? := fun k hk => by
    simp only [World.alloc, Array.getElem?_push]; simp [Nat.ne_of_lt hk]
  have hown : ∀ cb o', cb < w.heap.size → ¬ Owned s J cb o' → ¬ Owned (s.alloc x) (putJ J s.next m) cb o' := by
    rintro cb o' hcb hn ⟨b, y, hy, ho⟩
    simp only [St.alloc] at hy
    split at hy
    · rename_i hb
      subst hb
      have := ho.cb
      simp [putJ, hm] at this
      omega
    · exact hn ⟨b, y, hy, by rwa [hJ b (h.live b y hy)] at ho⟩
  refine ⟨⟨?_, ?_, ?_, ?_⟩, ⟨by simp [St.alloc], hJ, by simp, rfl, rfl, ⟨rfl, Nat.le_refl _⟩, hown, ?_, ?_⟩⟩
  · intro b y hy
    simp only [St.alloc] at hy ⊢
    split at hy
    · omega
    · have := h.live b y hy; omega
  · intro b y hy
    simp only [St.alloc] at hy ⊢
    split at hy
    · rename_i hb
      cases hy
      subst hb
      simpa [putJ] using hx
    · have hlt := h.live b y hy
      rw [hJ b hlt]
      exact (h.obj b y hy).mono (Nat.le_succ _) hJ (hheap _ (hold b y hy))
  · intro b b' y y' cb o' hne hy hy' ho ho'
    simp only [St.alloc] at hy hy'
    split at hy
    · rename_i hb
      split at hy'
      · omega
      · rw [hJ b' (h.live b' y' hy')] at ho'
        have h1 := ho.cb
        have h2 := ho'.cb
        have := hold b' y' hy'
        simp [putJ, hb, hm] at h1
        omega
    · rw [hJ b (h.live b y hy)] at ho
      split at hy'
      · rename_i hb
        have h1 := ho.cb
        have h2 := ho'.cb
        have := hold b y hy
        simp [putJ, hb, hm] at h2
        omega
      · rw [hJ b' (h.live b' y' hy')] at ho'
        exact h.apart b b' y y' cb o' hne hy hy' ho ho'
  · intro g hg
    obtain ⟨h1, h2, h3⟩ := h.glob g hg
    exact ⟨by simp [St.alloc]; omega, by rw [hJ g h1]; exact h2, by rw [hJ g h1]; exact h3⟩
  · intro cb c e f hc
    exact ⟨c, (hheap cb (Array.getElem?_eq_some_iff.1 hc).1).trans hc, rfl, fun _ _ => rfl⟩
  · intro cb y hy _ _
    exact (hheap cb (Array.getElem?_eq_some_iff.1 hy).1).trans hy

/-- Cells are written into a block's row. -/
theorem Sim.write (h : Sim G s J w) {b : Nat} {vs : List Value} {tail : Bool} (hb : s.heap b = some (.cells vs tail)) (o : Nat) (xs ys : List Value)
    (hl : xs.length = ys.length) (hx : ∀ (i : Nat) (x y : Value), xs[i]? = some x → ys[i]? = some y → VR s.next J true x y)
    (ho : o ≤ vs.length) (hfit : o + xs.length ≤ (J b).ext) :
    Sim G (s.put b (.cells (lwr vs o xs) tail)) J (w.setCells (J b).cb ((J b).k + o) ys) ∧
    Step s J w (s.put b (.cells (lwr vs o xs) tail)) J (w.setCells (J b).cb ((J b).k + o) ys) := by
  obtain ⟨h1, h2, c, e, fr, hc, hsz, hv, hone, hfr⟩ := h.obj b _ hb
  obtain ⟨r1, r2, r3, r4⟩ := setCells_rest ys w (J b).cb ((J b).k + o)
  have hnew := setCells_same ys w (J b).cb ((J b).k + o) c e fr hc
  have hget : ∀ i, (awr c ((J b).k + o) ys)[i]? = if (J b).k + o ≤ i ∧ i < (J b).k + o + ys.length then ys[i - ((J b).k + o)]? else c[i]? :=
    fun i => awr_get ys c ((J b).k + o) i (by omega)
  have hvr : ∀ y ∈ ys, y.oneCell' = true := by
    intro y hy
    obtain ⟨i, hi, rfl⟩ := List.getElem_of_mem hy
    exact (hx i _ _ (List.getElem?_eq_getElem (by omega)) (List.getElem?_eq_getElem hi)).one_right
  have hown : ∀ cb o', Owned (s.put b (.cells (lwr vs o xs) tail)) J cb o' ↔ Owned s J cb o' := by
    intro cb o'
    constructor
    · rintro ⟨b', y, hy, hw⟩
      simp only [St.put] at hy
      split at hy
      · rename_i he
        cases hy
        exact ⟨b, _, hb, by rw [he] at hw; exact hw⟩
      · exact ⟨b', y, hy, hw⟩
    · rintro ⟨b', y, hy, hw⟩
      by_cases he : b' = b
      · subst he
        rw [hb] at hy
        cases hy
        exact ⟨b', .cells (lwr vs o xs) tail, by simp [St.put], hw⟩
      · exact ⟨b', y, by simpa [St.put, he] using hy, hw⟩
  have hout : ∀ i, ¬ Owned s J (J b).cb i → (awr c ((J b).k + o) ys)[i]? = c[i]? := by
    intro i hi
    rw [hget, if_neg]
    rintro ⟨g1, g2⟩
    exact hi ⟨b, _, hb, rfl, by omega, by omega⟩
  refine ⟨⟨?_, ?_, ?_, h.glob⟩, ⟨Nat.le_refl _, fun _ _ => rfl, by omega, r2, r3, r4, fun cb o' _ hn => by rw [hown]; exact hn, ?_, ?_⟩⟩
  · intro b' y hy
    simp only [St.put] at hy ⊢
    split at hy
    · rename_i he; subst he; exact h.live b' _ hb
    · exact h.live b' y hy
  · intro b' y hy
    simp only [St.put] at hy ⊢
    split at hy
    · rename_i he
      cases hy
      subst he
      refine ⟨by rw [lwr_length ho]; omega, fun ht => ?_, _, e, fr, hnew, by rw [awr_size]; exact hsz, fun i x hxi => ?_, fun i hi => ?_, hfr⟩
      · have := h2 ht
        rw [lwr_length_same (by omega)]; exact this
      · rw [lwr_get ho] at hxi
        split at hxi
        · rename_i hin
          have hyl : i - o < ys.length := by omega
          refine ⟨_, ?_, hx (i - o) x _ hxi (List.getElem?_eq_getElem hyl)⟩
          rw [hget, if_pos (by omega), show (J b').k + i - ((J b').k + o) = i - o by omega]
          exact List.getElem?_eq_getElem hyl
        · rename_i hin
          obtain ⟨y, hy, hr⟩ := hv i x hxi
          exact ⟨y, by rw [hget, if_neg (by omega)]; exact hy, hr⟩
      · by_cases hin : o ≤ i ∧ i < o + ys.length
        · have hyl : i - o < ys.length := by omega
          refine ⟨ys[i - o], ?_, hvr _ (List.getElem_mem hyl)⟩
          rw [hget, if_pos (by omega), show (J b').k + i - ((J b').k + o) = i - o by omega]
          exact List.getElem?_eq_getElem hyl
        · obtain ⟨y, hy, hr⟩ := hone i hi
          exact ⟨y, by rw [hget, if_neg (by omega)]; exact hy, hr⟩
    · rename_i he
      have hR := h.obj b' y hy
      by_cases hcb : (J b').cb = (J b).cb
      · cases y with
        | cells vs' tail' =>
          refine hR.cells_of (by rw [hcb]; exact hc) (by rw [hcb]; exact hnew) (awr_size _ _ _) (fun i hi => ?_)
          rw [hget, if_neg]
          rintro ⟨g1, g2⟩
          exact h.apart b b' _ _ (J b).cb ((J b').k + i) (Ne.symm he) hb hy ⟨rfl, by omega, by omega⟩ ⟨hcb, by omega, by omega⟩
        | map es =>
          obtain ⟨es', clock, hm, _⟩ := hR
          rw [hcb, hc] at hm
          cases hm
      · exact hR.mono (Nat.le_refl _) (fun _ _ => rfl) (setCells_other _ _ _ _ _ hcb)
  · intro b1 b2 y1 y2 cb o' hne hy1 hy2 ho1 ho2
    simp only [St.put] at hy1 hy2
    split at hy1
    · rename_i he1
      cases hy1
      split at hy2
      · omega
      · subst he1
        exact h.apart b1 b2 _ y2 cb o' hne hb hy2 ho1 ho2
    · split at hy2
      · rename_i he2
        cases hy2
        subst he2
        exact h.apart b1 b2 y1 _ cb o' hne hy1 hb ho1 ho2
      · exact h.apart b1 b2 y1 y2 cb o' hne hy1 hy2 ho1 ho2
  · intro cb c0 e0 f0 hc0
    by_cases hcb : cb = (J b).cb
    · subst hcb
      rw [hc] at hc0
      cases hc0
      exact ⟨_, hnew, awr_size _ _ _, hout⟩
    · exact ⟨c0, (setCells_other _ _ _ _ _ hcb).trans hc0, rfl, fun _ _ => rfl⟩
  · intro cb y hy hnc _
    have hcb : cb ≠ (J b).cb := by
      rintro rfl
      rw [hc] at hy
      cases hy
      exact hnc _ _ _ rfl
    exact (setCells_other _ _ _ _ _ hcb).trans hy

def World.putObj' (w : World) (r : Nat) (o : Obj) : World := { w with heap := w.heap.setIfInBounds r o }

/-- A map's entries turn. -/
theorem Sim.putMap (h : Sim G s J w) {b : Nat} {es es1 : List (Value × Value)} (hb : s.heap b = some (.map es)) (o : Obj)
    (hx : ∀ w', w'.heap[(J b).cb]? = some o → ObjR s.next J (J b) w' (.map es1)) :
    Sim G (s.put b (.map es1)) J (World.putObj' w (J b).cb o) ∧ Step s J w (s.put b (.map es1)) J (World.putObj' w (J b).cb o) := by
  obtain ⟨es0, clock, hc, _⟩ := h.obj b _ hb
  have hlt : (J b).cb < w.heap.size := (Array.getElem?_eq_some_iff.1 hc).1
  have hsame : (World.putObj' w (J b).cb o).heap[(J b).cb]? = some o := by simp [World.putObj', hlt]
  have hoth : ∀ k, k ≠ (J b).cb → (World.putObj' w (J b).cb o).heap[k]? = w.heap[k]? := fun k hk => by
    simp only [World.putObj', Array.getElem?_setIfInBounds]; simp [Ne.symm hk]
  have hown : ∀ cb o', Owned (s.put b (.map es1)) J cb o' ↔ Owned s J cb o' := by
    intro cb o'
    constructor
    · rintro ⟨b', y, hy, hw⟩
      simp only [St.put] at hy
      split at hy
      · rename_i he
        cases hy
        exact ⟨b, _, hb, by rw [he] at hw; exact hw⟩
      · exact ⟨b', y, hy, hw⟩
    · rintro ⟨b', y, hy, hw⟩
      by_cases he : b' = b
      · subst he
        rw [hb] at hy
        cases hy
        exact ⟨b', .map es1, by simp [St.put], hw⟩
      · exact ⟨b', y, by simpa [St.put, he] using hy, hw⟩
  have hcbne : ∀ b' y, b' ≠ b → s.heap b' = some y → (J b').cb ≠ (J b).cb := by
    intro b' y hne hy he
    have hR := h.obj b' y hy
    cases y with
    | cells vs t =>
      obtain ⟨_, _, c, e, f, hc', _⟩ := hR
      rw [he, hc] at hc'
      cases hc'
    | map es' => exact h.apart b b' _ _ (J b).cb 0 (Ne.symm hne) hb hy rfl he
  refine ⟨⟨?_, ?_, ?_, h.glob⟩, ⟨Nat.le_refl _, fun _ _ => rfl, by simp [World.putObj'], rfl, rfl, ⟨rfl, Nat.le_refl _⟩, fun cb o' _ hn => by rw [hown]; exact hn, ?_, ?_⟩⟩
  · intro b' y hy
    simp only [St.put] at hy ⊢
    split at hy
    · rename_i he; subst he; exact h.live b' _ hb
    · exact h.live b' y hy
  · intro b' y hy
    simp only [St.put] at hy ⊢
    split at hy
    · rename_i he
      cases hy
      subst he
      exact hx _ hsame
    · rename_i he
      exact (h.obj b' y hy).mono (Nat.le_refl _) (fun _ _ => rfl) (hoth _ (hcbne b' y he hy))
  · intro b1 b2 y1 y2 cb o' hne hy1 hy2 ho1 ho2
    simp only [St.put] at hy1 hy2
    split at hy1
    · rename_i he1
      cases hy1
      split at hy2
      · omega
      · subst he1
        exact h.apart b1 b2 _ y2 cb o' hne hb hy2 ho1 ho2
    · split at hy2
      · rename_i he2
        cases hy2
        subst he2
        exact h.apart b1 b2 y1 _ cb o' hne hy1 hb ho1 ho2
      · exact h.apart b1 b2 y1 y2 cb o' hne hy1 hy2 ho1 ho2
  · intro cb c0 e0 f0 hc0
    have hcb : cb ≠ (J b).cb := by
      rintro rfl
      rw [hc] at hc0
      cases hc0
    exact ⟨c0, (hoth cb hcb).trans hc0, rfl, fun _ _ => rfl⟩
  · intro cb y hy hnc hno
    have hcb : cb ≠ (J b).cb := by
      rintro rfl
      exact hno 0 ⟨b, _, hb, rfl⟩
    exact (hoth cb hcb).trans hy

/-- What a call has made, and nothing of which anybody can know, is forgotten. -/
theorem Sim.forget {s' : St} {J' : Nat → Plc} {w' : World} (h : Sim G s J w) (h' : Sim G s' J' w') (hs : Step s J w s' J' w') (hsame : ∀ b, b < s.next → s'.heap b = s.heap b) :
    Sim G s J' w' ∧ Step s J w s J' w' := by
  have hbel : ∀ b x, s.heap b = some x → ∀ (i : Nat) (y : Value), (match x with | .cells vs _ => vs[i]? = some y | .map es => ∃ e, es[i]? = some e ∧ (y = e.1 ∨ y = e.2)) → Bel s.next y := by
    intro b x hx i y hy
    have hR := h.obj b x hx
    cases x with
    | cells vs t => obtain ⟨_, _, c, e, f, _, _, hv, _⟩ := hR; obtain ⟨z, _, hr⟩ := hv i y hy; exact hr.bel
    | map es =>
      obtain ⟨es', clock, hc, hl, hv, _⟩ := hR
      obtain ⟨e, he, hy⟩ := hy
      have hi : i < es'.size := by rw [← hl]; exact (List.getElem?_eq_some_iff.1 he).1
      obtain ⟨h1, h2⟩ := hv i e _ he (Array.getElem?_eq_getElem hi)
      rcases hy with rfl | rfl
      · exact h1.bel
      · exact h2.bel
  have hown : ∀ cb o, Owned s J' cb o ↔ Owned s J cb o := by
    intro cb o
    constructor
    · rintro ⟨b, x, hx, ho⟩; exact ⟨b, x, hx, by rwa [hs.ext b (h.live b x hx)] at ho⟩
    · rintro ⟨b, x, hx, ho⟩; exact ⟨b, x, hx, by rwa [hs.ext b (h.live b x hx)]⟩
  refine ⟨⟨h.live, ?_, ?_, ?_⟩, ⟨Nat.le_refl _, hs.ext, hs.size, hs.os, hs.out, hs.tape, fun cb o _ hn => by rw [hown]; exact hn, hs.row, hs.other⟩⟩
  · intro b x hx
    have hlt := h.live b x hx
    have hR := h'.obj b x ((hsame b hlt).trans hx)
    have hb := hbel b x hx
    cases x with
    | cells vs t =>
      obtain ⟨h1, h2, c, e, f, hc, hsz, hv, ho, hf⟩ := hR
      exact ⟨h1, h2, c, e, f, hc, hsz, fun i y hy => let ⟨z, hz, hr⟩ := hv i y hy; ⟨z, hz, hr.down (fun _ _ => rfl) (hb i y hy)⟩, ho, hf⟩
    | map es =>
      obtain ⟨es', clock, hc, hl, hv, h1, h2⟩ := hR
      exact ⟨es', clock, hc, hl, fun i y z hy hz => let ⟨a, b⟩ := hv i y z hy hz; ⟨a.down (fun _ _ => rfl) (hb i _ ⟨y, hy, .inl rfl⟩), b.down (fun _ _ => rfl) (hb i _ ⟨y, hy, .inr rfl⟩)⟩, h1, h2⟩
  · intro b b' x x' cb o hne hx hx' ho ho'
    rw [hs.ext b (h.live b x hx)] at ho
    rw [hs.ext b' (h.live b' x' hx')] at ho'
    exact h.apart b b' x x' cb o hne hx hx' ho ho'
  · intro g hg
    obtain ⟨h1, h2, h3⟩ := h.glob g hg
    exact ⟨h1, by rw [hs.ext g h1]; exact h2, by rw [hs.ext g h1]; exact h3⟩

end Go.Zz
