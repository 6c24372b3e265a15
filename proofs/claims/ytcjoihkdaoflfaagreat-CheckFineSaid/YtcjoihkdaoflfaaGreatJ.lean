/- Operations that change something: stores, maps, copy, clear, append, cap. -/
import Derived.Test.YtcjoihkdaoflfaaGreatI
set_option linter.all false
namespace Go.Zz
open Go

variable {P : Program} {G : Nat} {s : St} {J : Nat → Plc} {w : World}

/-- What is behind an operation: a value, and a memory that stands to the abstract one. -/
def After (G : Nat) (s : St) (J : Nat → Plc) (w : World) (k : Post) (v' : Value) (w' : World) : Prop :=
  ∃ v s1 J1, k v s1 ∧ VR s1.next J1 false v v' ∧ Sim G s1 J1 w' ∧ Step s J w s1 J1 w'

theorem Sim.storeRun (h : Sim G s J w) {b : Nat} {vs : List Value} {tail : Bool} (hb : s.heap b = some (.cells vs tail)) (o : Nat) (ys : List Value)
    (hfit : o + ys.length ≤ (J b).ext) (h1 : ∀ v ∈ ys, v.oneCell' = true) : (storeCells ⟨(J b).cb, (J b).k + o, none⟩ ys).run P w = .ok () (w.setCells (J b).cb ((J b).k + o) ys) := by
  obtain ⟨g1, g2, c, e, fr, hc, hsz, hv, hone, hfr⟩ := h.obj b _ hb
  have := run_storeCells_cells (P := P) (J b).cb ((J b).k + o) ys 0 w (fun j hj => by
      have : (J b).k + o + j < c.size := by omega
      simp [World.cell?, hc, this]) (fun j hj => by
      have := hfr.1 (o + j) (by omega)
      simp only [World.frozen?, hc, Nat.add_zero]
      simp only [Bool.and_eq_false_iff, decide_eq_false_iff_not]
      omega) h1
  simpa using this

/-- A write into a row, both sides at once. -/
theorem Sim.put (h : Sim G s J w) {b : Nat} {vs : List Value} {tail : Bool} (hb : s.heap b = some (.cells vs tail)) (o : Nat) (xs ys : List Value)
    (hl : xs.length = ys.length) (hx : ∀ (i : Nat) (x y : Value), xs[i]? = some x → ys[i]? = some y → VR s.next J true x y) (ho : o ≤ vs.length) (hfit : o + xs.length ≤ (J b).ext) :
    ∃ w', (storeCells ⟨(J b).cb, (J b).k + o, none⟩ ys).run P w = .ok () w' ∧ Sim G (s.put b (.cells (lwr vs o xs) tail)) J w' ∧ Step s J w (s.put b (.cells (lwr vs o xs) tail)) J w' := by
  obtain ⟨h1, h2⟩ := h.write hb o xs ys hl hx ho hfit
  refine ⟨_, h.storeRun hb o ys (by omega) (fun v hv => ?_), h1, h2⟩
  obtain ⟨i, hi, rfl⟩ := List.getElem_of_mem hv
  exact (hx i _ _ (List.getElem?_eq_getElem (by omega)) (List.getElem?_eq_getElem hi)).one_right

theorem list_rel {n : Nat} {a b : Array Value} (h : ∀ (i : Nat) (x y : Value), a[i]? = some x → b[i]? = some y → VR n J true x y) (i : Nat) (x y : Value) (hx : a.toList[i]? = some x) (hy : b.toList[i]? = some y) : VR n J true x y :=
  h i x y (by simpa using hx) (by simpa using hy)

theorem storeW_run (hS : Sim G s J w) {t : TypeId} {p p' v v' : Value} {k : Post} (h : storeW (tSize P t) p v k s) (hp : VR s.next J false p p') (hv : VR s.next J false v v') :
    ∃ w', (Instr.storeAt t p' v').run P w = .ok () w' ∧ After G s J w k undef w' := by
  unfold storeW at h
  split at h
  · rename_i m a hm
    obtain ⟨i, hi, hsz⟩ := tSize_some hm
    obtain ⟨hb, hs, rfl⟩ := hp.ptr_inv
    split at h
    · rename_i vs tail hrow
      obtain ⟨hd, hn, hle, hk⟩ := h
      obtain ⟨c1, c2⟩ := hv.cells hd
      have hext := (hS.obj _ _ hrow).1
      obtain ⟨w', h1, h2, h3⟩ := hS.put (P := P) hrow a.off v.cells.toList v'.cells.toList (by simpa using c1) (list_rel c2) (by omega) (by simp; omega)
      refine ⟨w', ?_, _, _, J, hk, .dc, h2, h3⟩
      have : v'.cells.size = i.size := by omega
      simp [Instr.storeAt, Instr.sureAddr, storeVar, run_sizeOf hi, this, tr, h1]
    · exact h.elim
  · exact h.elim

theorem set_rel {n : Nat} {es : List (Value × Value)} {es' : Array MapEntry} (hr : ∀ (i : Nat) (x : Value × Value) (y : MapEntry), es[i]? = some x → es'[i]? = some y → VR n J false x.1 y.key ∧ VR n J false x.2 y.val)
    (j : Nat) {k v k' v' : Value} (hk : VR n J false k k') (hv : VR n J false v v') (i : Nat) (x : Value × Value) (y : MapEntry) (hx : (es.set j (k, v))[i]? = some x)
    (hy : (es'.modify j fun e => { e with key := k', val := v' })[i]? = some y) : VR n J false x.1 y.key ∧ VR n J false x.2 y.val := by
  rw [List.getElem?_set] at hx
  rw [Array.getElem?_modify] at hy
  by_cases h : j = i
  · subst h
    rw [if_pos rfl] at hx hy
    split at hx
    · cases hx
      cases hz : es'[j]? with
      | none => rw [hz] at hy; cases hy
      | some z => rw [hz] at hy; cases hy; exact ⟨hk, hv⟩
    · cases hx
  · rw [if_neg h] at hx hy
    exact hr i x y hx hy

theorem sameBits_of {d : TypeDesc} {x y x' y' : Value} {n : Nat} (h : Instr.sameNow d x y = some true) (hx : VR n J false x x') (hy : VR n J false y y') : Instr.sameBits 10000 y' x' = true := by
  unfold Instr.sameNow at h
  split at h
  · cases hx.int_inv; cases hy.int_inv
    split at h
    · rename_i hk; subst hk; simp at h; subst h; simp [Instr.sameBits]
    · cases h
  · cases hx.string_inv; cases hy.string_inv; simp only [Option.some.injEq] at h; simp only [Instr.sameBits]; rw [beq_toListBytes] at h ⊢; simp at h; simp [h]
  · cases hx.bool_inv; cases hy.bool_inv; simp at h; simp [Instr.sameBits, h]
  · cases h

theorem run_setObj {r : Nat} {o o' : Obj} (h : w.heap[r]? = some o) (hn : ∀ c e f, o ≠ .cells c e f) : (setObj r o').run P w = .ok () (World.putObj' w r o') := by
  cases o <;> first | (exact absurd rfl (hn _ _ _)) | simp [setObj, Sem.run, h, World.putObj']

theorem mapPutW_run (hS : Sim G s J w) {t : TypeId} {x x' key key' v v' : Value} {k : Post} (h : mapPutW (tMap P t) x key v k s) (hx : VR s.next J false x x') (hk : VR s.next J false key key') (hv : VR s.next J false v v') :
    ∃ w', (Instr.mapUpdate t x' key' v').run P w = .ok () w' ∧ After G s J w k undef w' := by
  unfold mapPutW at h
  split at h
  · rename_i d z r hm
    obtain ⟨kt, et, ii, hu, hkt, hi, hz, hzz, hp⟩ := tMap_some hm
    obtain ⟨hr, rfl⟩ := hx.map_inv
    split at h
    · rename_i es hrow
      obtain ⟨es', clock, hc, hl, hrel, hb1, hb2⟩ := hS.obj _ _ hrow
      have hrel' : ∀ (i : Nat) (x : Value × Value) (y : MapEntry), es[i]? = some x → es'.toList[i]? = some y → VR s.next J false x.1 y.key ∧ VR s.next J false x.2 y.val := fun i x y hx hy => hrel i x y hx (by simpa using hy)
      split at h
      · rename_i j u hf
        obtain ⟨r', h1, h2, h3⟩ := findA_rel hk es es'.toList 0 _ (by simpa using hl) hrel' hf
        obtain ⟨u', rfl, hvu, _, hj, e, he, hsame⟩ := h3 _ _ rfl
        simp at he hj
        have hj' : j < es'.size := by omega
        have hkey := hrel j e _ he (Array.getElem?_eq_getElem hj')
        have hbits : Instr.sameBits 10000 (es'[j]).key key' = true := sameBits_of hsame hk hkey.1
        obtain ⟨g1, g2⟩ := hS.putMap (es1 := es.set j (key, v)) hrow (.map (es'.modify j fun e => { e with key := key', val := v' }) clock) (fun w' hw' => by
          refine ⟨_, clock, hw', by simp [hl], set_rel hrel j hk hv, fun i y hy => ?_, fun a b y z hab hy hz => ?_⟩
          · rw [Array.getElem?_modify] at hy
            split at hy
            · cases hz0 : es'[i]? with
              | none => rw [hz0] at hy; cases hy
              | some z0 => rw [hz0] at hy; cases hy; exact hb1 i z0 hz0
            · exact hb1 i y hy
          · rw [Array.getElem?_modify] at hy hz
            have e1 : ∃ y0, es'[a]? = some y0 ∧ y0.born = y.born := by
              split at hy
              · cases hz0 : es'[a]? with
                | none => rw [hz0] at hy; cases hy
                | some z0 => rw [hz0] at hy; cases hy; exact ⟨z0, rfl, rfl⟩
              · exact ⟨y, hy, rfl⟩
            have e2 : ∃ z0, es'[b]? = some z0 ∧ z0.born = z.born := by
              split at hz
              · cases hz0 : es'[b]? with
                | none => rw [hz0] at hz; cases hz
                | some z0 => rw [hz0] at hz; cases hz; exact ⟨z0, rfl, rfl⟩
              · exact ⟨z, hz, rfl⟩
            obtain ⟨y0, e1, e1'⟩ := e1
            obtain ⟨z0, e2, e2'⟩ := e2
            rw [← e1', ← e2']
            exact hb2 a b y0 z0 hab e1 e2)
        refine ⟨_, ?_, _, _, J, h, .dc, g1, g2⟩
        have hfk : (Instr.findKey kt key' es'.toList).run P w = .ok (some (j, u')) w := by simp [Instr.findKey, run_underlying hkt, h1]
        have hkeep : (Instr.keyThatStays (es'[j]).key key').run P w = .ok key' w := by simp [Instr.keyThatStays, hbits]
        simp only [Instr.mapUpdate, Sem.run_bind, run_underlying hu, Result.andThen_ok, run_getObj hc, run_checkKey' hkt hp, hfk]
        simp [hj', hkeep]
        exact run_setObj hc (by intro c e f hh; cases hh)
      · rename_i hf
        obtain ⟨r', h1, h2, h3⟩ := findA_rel hk es es'.toList 0 _ (by simpa using hl) hrel' hf
        cases h2 rfl
        obtain ⟨g1, g2⟩ := hS.putMap (es1 := es ++ [(key, v)]) hrow (.map (es'.push { key := key', val := v', born := clock }) (clock + 1)) (fun w' hw' => by
          refine ⟨_, clock + 1, hw', by simp [hl], fun i x y hx hy => ?_, fun i y hy => ?_, fun a b y z hab hy hz => ?_⟩
          · rw [Array.getElem?_push] at hy
            by_cases hi : i = es'.size
            · rw [if_pos hi] at hy
              cases hy
              rw [List.getElem?_append_right (by omega), hi, hl] at hx
              simp at hx
              rw [← hx]
              exact ⟨hk, hv⟩
            · rw [if_neg hi] at hy
              have : i < es'.size := (Array.getElem?_eq_some_iff.1 hy).1
              rw [List.getElem?_append_left (by omega)] at hx
              exact hrel i x y hx hy
          · rw [Array.getElem?_push] at hy
            split at hy
            · cases hy; simp
            · have := hb1 i y hy; omega
          · rw [Array.getElem?_push] at hy hz
            by_cases hb : b = es'.size
            · rw [if_pos hb] at hz
              cases hz
              rw [if_neg (by omega)] at hy
              exact hb1 a y hy
            · rw [if_neg hb] at hz
              have : b < es'.size := (Array.getElem?_eq_some_iff.1 hz).1
              rw [if_neg (by omega)] at hy
              exact hb2 a b y z hab hy hz)
        refine ⟨_, ?_, _, _, J, h, .dc, g1, g2⟩
        have hfk : (Instr.findKey kt key' es'.toList).run P w = .ok none w := by simp [Instr.findKey, run_underlying hkt, h1]
        simp only [Instr.mapUpdate, Sem.run_bind, run_underlying hu, Result.andThen_ok, run_getObj hc, run_checkKey' hkt hp, hfk]
        exact run_setObj hc (by intro c e f hh; cases hh)
      · exact h.elim
    · exact h.elim
  · exact h.elim

theorem putObj_self {r : Nat} {o : Obj} (h : w.heap[r]? = some o) : World.putObj' w r o = w := by
  have : w.heap.setIfInBounds r o = w.heap := by
    apply Array.ext_getElem?
    intro i
    rw [Array.getElem?_setIfInBounds]
    by_cases hi : r = i
    · subst hi; rw [if_pos rfl, if_pos (Array.getElem?_eq_some_iff.1 h).1, h]
    · rw [if_neg hi]
  simp [World.putObj', this]

theorem delW_run (hS : Sim G s J w) {t ty : TypeId} {x x' key key' : Value} {k : Post} (h : delW (tMap P t) x key k s) (hx : VR s.next J false x x') (hk : VR s.next J false key key') {ts : Array TypeId} (hts : ts[0]? = some t) :
    ∃ w', (Builtin.delete_ ts ty #[x', key']).run P w = .ok (.tuple #[]) w' ∧ After G s J w k (.tuple #[]) w' := by
  unfold delW at h
  split at h
  · rename_i dz hm
    obtain ⟨d, z⟩ := dz
    obtain ⟨kt, et, ii, hu, hkt, hi, hz, hzz, hp⟩ := tMap_some hm
    cases hx.nilMap_inv
    exact ⟨w, by simp [Builtin.delete_, hts, run_underlying hu, run_checkKey' hkt hp], _, s, J, h, .dc, hS, .refl _ _ _⟩
  · rename_i d z r hm
    obtain ⟨kt, et, ii, hu, hkt, hi, hz, hzz, hp⟩ := tMap_some hm
    obtain ⟨hr, rfl⟩ := hx.map_inv
    split at h
    · rename_i es hrow
      obtain ⟨es', clock, hc, hl, hrel, hb1, hb2⟩ := hS.obj _ _ hrow
      have hrel' : ∀ (i : Nat) (x : Value × Value) (y : MapEntry), es[i]? = some x → es'.toList[i]? = some y → VR s.next J false x.1 y.key ∧ VR s.next J false x.2 y.val := fun i x y hx hy => hrel i x y hx (by simpa using hy)
      split at h
      · rename_i j u hf
        obtain ⟨r', h1, h2, h3⟩ := findA_rel hk es es'.toList 0 _ (by simpa using hl) hrel' hf
        obtain ⟨u', rfl, hvu, _, hj, e, he, hsame⟩ := h3 _ _ rfl
        simp at he hj
        have hj' : j < es'.size := by omega
        have herase : (es'.eraseIdxIfInBounds j).toList = es'.toList.eraseIdx j := by simp [Array.eraseIdxIfInBounds, hj']
        have hget : ∀ i, (es'.eraseIdxIfInBounds j)[i]? = if i < j then es'[i]? else es'[i + 1]? := fun i => by
          rw [← Array.getElem?_toList, herase, List.getElem?_eraseIdx]
          simp
        obtain ⟨g1, g2⟩ := hS.putMap (es1 := es.eraseIdx j) hrow (.map (es'.eraseIdxIfInBounds j) clock) (fun w' hw' => by
          refine ⟨_, clock, hw', ?_, fun i x y hx hy => ?_, fun i y hy => ?_, fun a b y z hab hy hz => ?_⟩
          · rw [← Array.length_toList, herase, List.length_eraseIdx, List.length_eraseIdx]
            simp [hl]
          · rw [List.getElem?_eraseIdx] at hx
            rw [hget] at hy
            split at hx
            · rw [if_pos (by assumption)] at hy; exact hrel i x y hx hy
            · rw [if_neg (by assumption)] at hy; exact hrel _ x y hx hy
          · rw [hget] at hy
            split at hy
            · exact hb1 _ y hy
            · exact hb1 _ y hy
          · rw [hget] at hy hz
            split at hy
            · split at hz
              · exact hb2 a b y z hab hy hz
              · exact hb2 a (b + 1) y z (by omega) hy hz
            · rw [if_neg (by omega)] at hz
              exact hb2 (a + 1) (b + 1) y z (by omega) hy hz)
        refine ⟨_, ?_, _, _, J, h, .dc, g1, g2⟩
        have hfk : (Instr.findKey kt key' es'.toList).run P w = .ok (some (j, u')) w := by simp [Instr.findKey, run_underlying hkt, h1]
        have hset := run_setObj (P := P) (o' := .map (es'.eraseIdxIfInBounds j) clock) hc (by intro c e f hh; cases hh)
        simp [Builtin.delete_, hts, run_underlying hu, run_getObj hc, run_checkKey' hkt hp, hfk, hset]
      · rename_i hf
        obtain ⟨r', h1, h2, h3⟩ := findA_rel hk es es'.toList 0 _ (by simpa using hl) hrel' hf
        cases h2 rfl
        refine ⟨w, ?_, _, s, J, h, .dc, hS, .refl _ _ _⟩
        have hfk : (Instr.findKey kt key' es'.toList).run P w = .ok none w := by simp [Instr.findKey, run_underlying hkt, h1]
        have hset := run_setObj (P := P) (o' := .map es' clock) hc (by intro c e f hh; cases hh)
        rw [putObj_self hc] at hset
        simp [Builtin.delete_, hts, run_underlying hu, run_getObj hc, run_checkKey' hkt hp, hfk, hset]
      · exact h.elim
    · exact h.elim
  · exact h.elim

/-! ## Slices: copy, clear, append, cap -/

theorem sliceCells_run (hS : Sim G s J w) {z : Nat} {a : Option Addr} {l c : Nat} {x' : Value} {cs : List Value} (h : sliceCells z (.slice a l c) s = some cs) (hx : VR s.next J false (.slice a l c) x') :
    ∃ a' c', x' = .slice a' l c' ∧ cs.length = l * z ∧ ∃ ys : List Value, ys.length = cs.length ∧ (∀ (i : Nat) (x y : Value), cs[i]? = some x → ys[i]? = some y → VR s.next J true x y) ∧
      ∀ w2, Holds w w2 → ∀ (j : Nat) (u : Value), ys[j]? = some u → ∃ b, a' = some b ∧ w2.cell? (b.add j) = some u := by
  cases a with
  | none =>
    obtain ⟨rfl, rfl, rfl⟩ := hx.nilSlice_inv
    simp [sliceCells] at h
    subst h
    exact ⟨none, 0, rfl, by simp, [], rfl, fun i x y hx => by simp at hx, fun w2 _ j u hu => by simp at hu⟩
  | some a =>
    obtain ⟨a', c', rfl, hb, hs, hl, hc, ha, hcap⟩ := hx.slice_inv
    simp only [sliceCells] at h
    split at h
    · rename_i hl0
      cases h
      exact ⟨some a', c', rfl, by simp [hl0], [], rfl, fun i x y hx => by simp at hx, fun w2 _ j u hu => by simp at hu⟩
    · rename_i hl0
      split at h
      · rename_i vs tail hrow
        split at h
        · rename_i hle
          cases h
          obtain ⟨ys, h1, h2, h3⟩ := hS.cells hrow hle
          have ha' : a' = tr (J a.block) a := ha.resolve_left (by omega)
          refine ⟨some a', c', rfl, by simp; omega, ys, by simp; omega, h2, fun w2 hw j u hu => ⟨a', rfl, ?_⟩⟩
          rw [ha']
          exact h3 w2 hw j u hu
        · cases h
      · cases h

theorem firstCells_of {z m : Nat} {a' : Option Addr} {l c : Nat} {ys : List Value} (hl : ys.length = m * z) (h : ∀ (j : Nat) (u : Value), ys[j]? = some u → ∃ b, a' = some b ∧ w.cell? (b.add j) = some u) :
    (Builtin.firstCells z m (.slice a' l c)).run P w = .ok ys.toArray w := by
  cases a' with
  | none =>
    cases ys with
    | nil => simp [Builtin.firstCells]
    | cons y r => obtain ⟨b, hb, _⟩ := h 0 y rfl; cases hb
  | some b => exact run_firstCells_some w z m b l c ys hl (fun j v hj => by obtain ⟨b', hb, hc⟩ := h j v hj; cases hb; exact hc)

theorem byteCells_rel {n : Nat} (b : ByteArray) (i : Nat) (x y : Value) (hx : (byteCells b)[i]? = some x) (hy : (byteCells b)[i]? = some y) : VR n J true x y := by
  rw [hx] at hy
  cases hy
  simp only [byteCells, List.getElem?_map] at hx
  cases hb : b.data.toList[i]? with
  | none => rw [hb] at hx; cases hx
  | some u => rw [hb] at hx; cases hx; exact .int _ _

theorem copyW_run (hS : Sim G s J w) {t e ty : TypeId} {z b : Nat} {zero : List Value} (ht : tSlice P t = some (e, z, b, zero)) {x x' y y' : Value} {k : Post} (h : copyW z x y k s)
    (hx : VR s.next J false x x') (hy : VR s.next J false y y') {ts : Array TypeId} (hts : ts[0]? = some t) :
    ∃ v' w', (Builtin.copy_ ts ty #[x', y']).run P w = .ok v' w' ∧ After G s J w k v' w' := by
  obtain ⟨hu, ii, zv, hi, hsz, hbb, hzv, hp, hzl, hzlen, hpos⟩ := tSlice_some ht
  -- what is read
  have src : ∀ m cs, (match y with | .string b => if z = 1 then some (b.size, byteCells b) else none | .slice a l c => (sliceCells z (.slice a l c) s).map fun cs => (l, cs) | _ => none) = some (m, cs) →
      cs.length = m * z ∧ (∀ w2, (Builtin.lenOf y').run P w2 = .ok m w2) ∧ ∀ n, n ≤ m → ∃ ys : List Value, ys.length = n * z ∧ (∀ (i : Nat) (x y : Value), (cs.take (n * z))[i]? = some x → ys[i]? = some y → VR s.next J true x y) ∧
        (Builtin.firstCells z n y').run P w = .ok ys.toArray w := by
    intro m cs hm
    split at hm
    · rename_i bs
      split at hm
      · rename_i hz1
        cases hm
        cases hy.string_inv
        refine ⟨by simp [byteCells, hz1], fun w2 => by simp [Builtin.lenOf], fun n hn => ⟨(byteCells bs).take n, ?_, fun i x y hx hy => ?_, ?_⟩⟩
        · simp [byteCells, hz1]; exact Nat.min_eq_left hn
        · rw [hz1, Nat.mul_one] at hx
          have hin : i < n := by have := (List.getElem?_eq_some_iff.1 hx).1; simp at this; omega
          rw [List.getElem?_take_of_lt hin] at hx hy
          exact byteCells_rel bs i x y hx hy
        · simp only [Builtin.firstCells, Sem.run_pure]
          congr 1
          apply Array.ext'
          simp only [byteCells, ← List.map_take]
          simp [ByteArray.extract, ByteArray.copySlice]
      · cases hm
    · rename_i a l c
      cases hsc : sliceCells z (.slice a l c) s with
      | none => rw [hsc] at hm; cases hm
      | some cs' =>
        rw [hsc] at hm
        cases hm
        obtain ⟨a', c', rfl, hlen, ys, hyl, hrel, hcell⟩ := sliceCells_run hS hsc hy
        refine ⟨hlen, fun w2 => by simp [Builtin.lenOf], fun n hn => ⟨ys.take (n * z), ?_, fun i x y hx hy => ?_, ?_⟩⟩
        · rw [List.length_take, hyl, hlen]; exact Nat.min_eq_left (Nat.mul_le_mul_right _ hn)
        · have hin : i < n * z := by have := (List.getElem?_eq_some_iff.1 hx).1; simp at this; omega
          rw [List.getElem?_take_of_lt hin] at hx hy
          exact hrel i x y hx hy
        · refine firstCells_of ?_ (fun j u hj => hcell w (Holds.refl w) j u ?_)
          · rw [List.length_take, hyl, hlen]; exact Nat.min_eq_left (Nat.mul_le_mul_right _ hn)
          · have hin : j < n * z := by have := (List.getElem?_eq_some_iff.1 hj).1; simp at this; omega
            rwa [List.getElem?_take_of_lt hin] at hj
    · cases hm
  unfold copyW at h
  split at h
  · rename_i mc hm
    obtain ⟨m, cs⟩ := mc
    obtain ⟨h1, h2, h3⟩ := src m cs hm
    obtain ⟨_, _, rfl⟩ := hx.nilSlice_inv
    obtain ⟨ys, g1, g2, g3⟩ := h3 0 (Nat.zero_le _)
    refine ⟨.int .i64 0, w, ?_, _, s, J, h, .one (.int _ _), hS, .refl _ _ _⟩
    simp [Builtin.copy_, hts, run_underlying hu, h2, run_sizeOf hi, hsz, g3, goInt]
  · rename_i m cs a l c hm
    obtain ⟨h1, h2, h3⟩ := src m cs hm
    obtain ⟨a', c', rfl, hb, hs, hl, hc, ha, hcap⟩ := hx.slice_inv
    obtain ⟨ys, g1, g2, g3⟩ := h3 (Nat.min m l) (Nat.min_le_left _ _)
    split at h
    · rename_i h0
      rw [h0] at g1 g3
      have : ys = [] := by simpa using g1
      subst this
      refine ⟨.int .i64 0, w, ?_, _, s, J, h, .one (.int _ _), hS, .refl _ _ _⟩
      simp [Builtin.copy_, hts, run_underlying hu, h2, run_sizeOf hi, hsz, h0, g3, goInt, storeCells]
    · rename_i h0
      split at h
      · rename_i vs tail hrow
        obtain ⟨hle, hk⟩ := h
        have ha' : a' = tr (J a.block) a := ha.resolve_left (by
          have : Nat.min m l ≤ l := Nat.min_le_right _ _
          omega)
        have hxl : (cs.take (Nat.min m l * z)).length = Nat.min m l * z := by
          rw [List.length_take, h1]; exact Nat.min_eq_left (Nat.mul_le_mul_right _ (Nat.min_le_left _ _))
        have hext := (hS.obj _ _ hrow).1
        obtain ⟨w', e1, e2, e3⟩ := hS.put (P := P) hrow a.off (cs.take (Nat.min m l * z)) ys (by omega) g2 (by omega) (by omega)
        refine ⟨.int .i64 (Nat.min m l), w', ?_, _, _, J, hk, .one (.int _ _), e2, e3⟩
        subst ha'
        simp [Builtin.copy_, hts, run_underlying hu, h2, run_sizeOf hi, hsz, g3, goInt, tr, e1]
      · exact h.elim
  · exact h.elim

theorem tIsMap_some {t : TypeId} (h : tIsMap P t = true) : ∃ k e, P.underlying t = some (.map k e) := by
  unfold tIsMap at h
  split at h
  · exact ⟨_, _, by assumption⟩
  · cases h

theorem zeroCells_eq (z : Array Value) (n : Nat) : Builtin.zeroCells z n = madeCells z (n * z.size) := rfl

theorem clearW_run (hS : Sim G s J w) {t ty : TypeId} {x x' : Value} {k : Post} (h : clearW P t x k s) (hx : VR s.next J false x x') :
    ∃ v' w', (Builtin.clear_ #[t] ty #[x']).run P w = .ok v' w' ∧ After G s J w k v' w' := by
  unfold clearW at h
  split at h
  · obtain ⟨hm, hk⟩ := h
    obtain ⟨kt, e, hu⟩ := tIsMap_some hm
    cases hx.nilMap_inv
    exact ⟨_, w, by simp [Builtin.clear_, run_underlying hu]; rfl, _, s, J, hk, .dc, hS, .refl _ _ _⟩
  · obtain ⟨hm, h⟩ := h
    obtain ⟨kt, e, hu⟩ := tIsMap_some hm
    obtain ⟨hr, rfl⟩ := hx.map_inv
    split at h
    · rename_i es hrow
      obtain ⟨es', clock, hc, hl, hrel, hb1, hb2⟩ := hS.obj _ _ hrow
      obtain ⟨g1, g2⟩ := hS.putMap (es1 := []) hrow (.map #[] clock) (fun w' hw' => ⟨#[], clock, hw', rfl, fun i x y hx => by simp at hx, fun i y hy => by simp at hy, fun i j y z _ hy => by simp at hy⟩)
      have hset := run_setObj (P := P) (o' := .map #[] clock) hc (by intro c e f hh; cases hh)
      exact ⟨.tuple #[], _, by simp [Builtin.clear_, run_underlying hu, run_getObj hc, hset], _, _, J, h, .dc, g1, g2⟩
    · exact h.elim
  · obtain ⟨hm, hk⟩ := h
    obtain ⟨q, hq⟩ := Option.isSome_iff_exists.1 hm
    obtain ⟨e, z, b, zero⟩ := q
    obtain ⟨hu, _⟩ := tSlice_some hq
    obtain ⟨_, _, rfl⟩ := hx.nilSlice_inv
    exact ⟨_, w, by simp [Builtin.clear_, run_underlying hu]; rfl, _, s, J, hk, .dc, hS, .refl _ _ _⟩
  · rename_i a l c
    split at h
    · rename_i e z b zero hq
      obtain ⟨hu, ii, zv, hi, hsz, hbb, hzv, hp, hzl, hzlen, hpos⟩ := tSlice_some hq
      obtain ⟨a', c', rfl, hb, hs, hl, hc, ha, hcap⟩ := hx.slice_inv
      split at h
      · rename_i h0
        subst h0
        exact ⟨_, w, by simp [Builtin.clear_, run_underlying hu]; rfl, _, s, J, h, .dc, hS, .refl _ _ _⟩
      · rename_i h0
        split at h
        · rename_i vs tail hrow
          obtain ⟨hle, hk⟩ := h
          have ha' : a' = tr (J a.block) a := ha.resolve_left (by omega)
          subst ha'
          have hext := (hS.obj _ _ hrow).1
          have hzr := zeros_rel (n := s.next) (J := J) hzl hp (l * z)
          have hzsz : zv.cells.size = z := by rw [← hzlen, ← hzl]; simp
          have hlen1 : (zeros zero (l * z)).length = l * z := by simp [zeros]
          obtain ⟨w', e1, e2, e3⟩ := hS.put (P := P) hrow a.off (zeros zero (l * z)) (madeCells zv.cells (l * z)).toList (by simpa using hzr.1) (fun i x y hx hy => hzr.2 i x y (by simpa using hx) (by simpa using hy)) (by omega) (by omega)
          refine ⟨.tuple #[], w', ?_, _, _, J, hk, .dc, e2, e3⟩
          have hz2 : Builtin.zeroCells zv.cells l = madeCells zv.cells (l * z) := by rw [zeroCells_eq, hzsz]
          cases l with
          | zero => exact absurd rfl h0
          | succ l =>
            simp [Builtin.clear_, run_underlying hu, run_zeroValue hi hzv, hz2, tr, e1]
        · exact h.elim
    · exact h.elim
  · exact h.elim

theorem capW_run (hS : Sim G s J w) {t ty : TypeId} {x x' : Value} {k : Post} (h : capW P t x k s) (hx : VR s.next J false x x') :
    ∃ v', (Builtin.cap_ #[t] ty #[x']).run P w = .ok v' w ∧ After G s J w k v' w := by
  unfold capW at h
  split at h
  · rename_i q l c hq
    obtain ⟨e, z, b, zero⟩ := q
    obtain ⟨hu, _⟩ := tSlice_some hq
    obtain ⟨rfl, rfl, rfl⟩ := hx.nilSlice_inv
    exact ⟨_, by simp [Builtin.cap_, run_underlying hu]; rfl, _, s, J, h, .one (.int _ _), hS, .refl _ _ _⟩
  · rename_i e z b zero a l c hq
    obtain ⟨hu, ii, zv, hi, hsz, hbb, hzv, hp, hzl, hzlen, hpos⟩ := tSlice_some hq
    obtain ⟨a', c', rfl, hb, hs, hl, hc, ha, hcap⟩ := hx.slice_inv
    have hrun : (Builtin.cap_ #[t] ty #[.slice (some a') l c']).run P w = .ok (.int .i64 c') w := by simp [Builtin.cap_, run_underlying hu, goInt]
    split at h
    · rename_i hct
      have : c = c' := by
        rcases hcap with h0 | ⟨h0, _⟩
        · exact h0
        · exfalso; omega
      subst this
      exact ⟨_, hrun, _, s, J, h, .one (.int _ _), hS, .refl _ _ _⟩
    · rename_i hct
      obtain ⟨hc0, h⟩ := h
      split at h
      · rename_i vs tail hrow
        have hw : z = (J a.block).w ∧ 0 < (J a.block).w ∧ a.off + c' * (J a.block).w = (J a.block).ext := by
          rcases hcap with h0 | ⟨h0, h3, h4⟩
          · exfalso; unfold top at *; omega
          · exact ⟨by unfold top at *; omega, h3, h4⟩
        obtain ⟨w1, w2, w3⟩ := hw
        have hR := hS.obj _ _ hrow
        obtain ⟨h1, h2, cc, ee, fr, hcc, hsz', hv, hone, hfr⟩ := hR
        rw [w1] at h
        have hk := h c' hl hc (by omega) (fun ht => by have := h2 ht; omega)
        refine ⟨_, hrun, _, _, J, hk, .one (.int _ _), ⟨?_, ?_, ?_, hS.glob⟩, ⟨Nat.le_refl _, fun _ _ => rfl, Nat.le_refl _, rfl, rfl, ⟨rfl, Nat.le_refl _⟩, ?_, fun cb c e f hc => ⟨c, hc, rfl, fun _ _ => rfl⟩, fun cb x hx _ _ => hx⟩⟩
        · intro b y hy
          simp only [St.put] at hy ⊢
          split at hy
          · rename_i he; subst he; exact hS.live _ _ hrow
          · exact hS.live b y hy
        · intro b y hy
          simp only [St.put] at hy ⊢
          split at hy
          · rename_i he
            cases hy
            subst he
            refine ⟨by simp; omega, fun _ => by simp; omega, cc, ee, fr, hcc, hsz', fun i x hx => ?_, hone, hfr.1, (fun he => nomatch he)⟩
            by_cases hi : i < vs.length
            · rw [List.getElem?_append_left hi] at hx
              exact hv i x hx
            · rw [List.getElem?_append_right (by omega)] at hx
              have hlt := (List.getElem?_eq_some_iff.1 hx).1
              simp at hlt
              obtain ⟨y, hy, hy1⟩ := hone i (by omega)
              have hxu : x = undef := List.eq_of_mem_replicate (List.mem_of_getElem? hx)
              subst hxu
              exact ⟨y, hy, .dc1 hy1⟩
          · exact hS.obj b y hy
        · intro b1 b2 y1 y2 cb o' hne hy1 hy2 ho1 ho2
          simp only [St.put] at hy1 hy2
          split at hy1
          · rename_i he1
            cases hy1
            split at hy2
            · omega
            · subst he1; exact hS.apart _ b2 _ y2 cb o' hne hrow hy2 ho1 ho2
          · split at hy2
            · rename_i he2
              cases hy2
              subst he2
              exact hS.apart b1 _ y1 _ cb o' hne hy1 hrow ho1 ho2
            · exact hS.apart b1 b2 y1 y2 cb o' hne hy1 hy2 ho1 ho2
        · rintro cb o _ hn ⟨b, y, hy, ho⟩
          simp only [St.put] at hy
          split at hy
          · rename_i he
            cases hy
            exact hn ⟨a.block, _, hrow, by rw [he] at ho; exact ho⟩
          · exact hn ⟨b, y, hy, ho⟩
      · exact h.elim
  · exact h.elim

end Go.Zz
