/- Operations that read the heap. -/
import Derived.Test.YtcjoihkdaoflfaaGreatF
set_option linter.all false
namespace Go.Zz
open Go

variable {P : Program} {G : Nat} {s : St} {J : Nat → Plc} {w : World}

/-- All that lies in w lies so in w2. -/
def Holds (w w2 : World) : Prop := ∀ cb, cb < w.heap.size → w2.heap[cb]? = w.heap[cb]?
theorem Holds.refl (w : World) : Holds w w := fun _ _ => rfl
theorem Holds.at {w w2 : World} (h : Holds w w2) {cb : Nat} {x : Obj} (hx : w.heap[cb]? = some x) : w2.heap[cb]? = some x :=
  (h cb (Array.getElem?_eq_some_iff.1 hx).1).trans hx

theorem Sim.holds {w2 : World} (h : Sim G s J w) (h2 : Holds w w2) : Sim G s J w2 :=
  ⟨h.live, fun b x hx => (h.obj b x hx).mono (Nat.le_refl _) (fun _ _ => rfl) (h2 _ (h.obj b x hx).lt), h.apart, h.glob⟩

/-- One cell. -/
theorem Sim.cell (h : Sim G s J w) {a : Addr} {vs : List Value} {tail : Bool} (hb : s.heap a.block = some (.cells vs tail)) {x : Value} (hx : vs[a.off]? = some x) :
    ∃ y, VR s.next J true x y ∧ ∀ w2, Holds w w2 → w2.cell? (tr (J a.block) a) = some y := by
  obtain ⟨h1, h2, c, e, fr, hc, hsz, hv, ho, hf⟩ := h.obj _ _ hb
  obtain ⟨y, hy, hr⟩ := hv _ _ hx
  exact ⟨y, hr, fun w2 hw => by simp [World.cell?, tr, hw.at hc, hy]⟩

/-- Some cells. -/
theorem Sim.cells (h : Sim G s J w) {a : Addr} {vs : List Value} {tail : Bool} (hb : s.heap a.block = some (.cells vs tail)) {m : Nat} (hm : a.off + m ≤ vs.length) :
    ∃ ys : List Value, ys.length = m ∧ (∀ (i : Nat) (x y : Value), ((vs.drop a.off).take m)[i]? = some x → ys[i]? = some y → VR s.next J true x y) ∧
      ∀ w2, Holds w w2 → ∀ (j : Nat) (u : Value), ys[j]? = some u → w2.cell? ((tr (J a.block) a).add j) = some u := by
  obtain ⟨h1, h2, c, e, fr, hc, hsz, hv, ho, hf⟩ := h.obj _ _ hb
  have hget : ∀ j, j < m → ∃ y, c[(J a.block).k + a.off + j]? = some y ∧ VR s.next J true (vs.getD (a.off + j) undef) y := fun j hj => by
    obtain ⟨y, hy, hr⟩ := hv (a.off + j) _ (List.getElem?_eq_getElem (by omega))
    refine ⟨y, by rw [Nat.add_assoc]; exact hy, ?_⟩
    rw [List.getD_eq_getElem?_getD, List.getElem?_eq_getElem (by omega)]
    exact hr
  refine ⟨(List.range m).map fun j => c.getD ((J a.block).k + a.off + j) undef, by simp, fun i x y hx hy => ?_, fun w2 hw j u hu => ?_⟩
  · have hi : i < m := by have := (List.getElem?_eq_some_iff.1 hy).1; simpa using this
    obtain ⟨z, hz, hr⟩ := hget i hi
    rw [List.getElem?_take_of_lt hi, List.getElem?_drop] at hx
    rw [List.getD_eq_getElem?_getD, hx] at hr
    simp [hi] at hy
    rw [← hy, hz]
    exact hr
  · have hj : j < m := by have := (List.getElem?_eq_some_iff.1 hu).1; simpa using this
    obtain ⟨z, hz, _⟩ := hget j hj
    simp [hj] at hu
    rw [← hu, hz, tr_add]
    simp [World.cell?, tr, hw.at hc, ← Nat.add_assoc, hz]

theorem run_loadCells_of {a : Addr} {ys : List Value} (h : ∀ (j : Nat) (u : Value), ys[j]? = some u → w.cell? (a.add j) = some u) : (loadCells a ys.length).run P w = .ok ys.toArray w :=
  run_loadCells_list w a ys h

theorem loadV_run (hS : Sim G s J w) {t : TypeId} {p p' v : Value} (h : loadV (tAgg P t) p s = some v) (hp : VR s.next J false p p') :
    ∃ v', VR s.next J false v v' ∧ ∀ w2, Holds w w2 → (Instr.loadAt t p').run P w2 = .ok v' w2 := by
  unfold loadV at h
  split at h
  · rename_i m a ha
    obtain ⟨i, hi, hsz, hag⟩ := tAgg_some ha
    obtain ⟨hb, hs, rfl⟩ := hp.ptr_inv
    split at h
    · rename_i vs tail hrow
      split at h
      · rename_i hle
        cases h
        obtain ⟨ys, hl, hr, hc⟩ := hS.cells hrow hle
        refine ⟨.agg ys.toArray, .agg (by simp [hl]; omega) (fun i x y hx hy => hr i x y (by simpa using hx) (by simpa using hy)), fun w2 hw => ?_⟩
        have := run_loadCells_of (P := P) (hc w2 hw)
        rw [hl] at this
        simp [Instr.loadAt, Instr.sureAddr, loadVar, hag, run_sizeOf hi, hsz, this]
      · cases h
    · cases h
  · rename_i m a ha
    obtain ⟨i, hi, hsz, hag⟩ := tAgg_some ha
    obtain ⟨hb, hs, rfl⟩ := hp.ptr_inv
    split at h
    · rename_i vs tail hrow
      obtain ⟨y, hr, hc⟩ := hS.cell hrow h
      refine ⟨y, .one hr, fun w2 hw => ?_⟩
      simp [Instr.loadAt, Instr.sureAddr, loadVar, hag, hc w2 hw]
    · cases h
  · cases h

theorem entries_run (hS : Sim G s J w) {x x' : Value} {es : List (Value × Value)} (h : entries x s = some es) (hx : VR s.next J false x x') :
    ∃ es' : Array MapEntry, es.length = es'.size ∧ (∀ (i : Nat) (x : Value × Value) (y : MapEntry), es[i]? = some x → es'[i]? = some y → VR s.next J false x.1 y.key ∧ VR s.next J false x.2 y.val) ∧
      ((x' = .map none ∧ es' = #[]) ∨ ∃ r clock, x' = .map (some r) ∧ ∀ w2, Holds w w2 → w2.heap[r]? = some (.map es' clock)) := by
  unfold entries at h
  split at h
  · cases h; cases hx.nilMap_inv; exact ⟨#[], rfl, fun i x y hx => by simp at hx, .inl ⟨rfl, rfl⟩⟩
  · rename_i r
    obtain ⟨hr, rfl⟩ := hx.map_inv
    split at h
    · rename_i es0 hb
      cases h
      obtain ⟨es', clock, hc, hl, hv, _⟩ := hS.obj _ _ hb
      exact ⟨es', hl, hv, .inr ⟨_, clock, rfl, fun w2 hw => hw.at hc⟩⟩
    · cases h
  · cases h

theorem sameNow_rel {n : Nat} {J : Nat → Plc} {d : TypeDesc} {x y x' y' : Value} {b : Bool} (h : Instr.sameNow d x y = some b) (hx : VR n J false x x') (hy : VR n J false y y') :
    Instr.sameNow d x' y' = some b := by
  unfold Instr.sameNow at h
  split at h
  · cases hx.int_inv; cases hy.int_inv; simpa [Instr.sameNow] using h
  · cases hx.string_inv; cases hy.string_inv; simpa [Instr.sameNow] using h
  · cases hx.bool_inv; cases hy.bool_inv; simpa [Instr.sameNow] using h
  · cases h

theorem findA_rel {n : Nat} {J : Nat → Plc} {d : TypeDesc} {k k' : Value} (hk : VR n J false k k') : ∀ (es : List (Value × Value)) (es' : List MapEntry) (i : Nat) (r : Option (Nat × Value)),
    es.length = es'.length → (∀ (i : Nat) (x : Value × Value) (y : MapEntry), es[i]? = some x → es'[i]? = some y → VR n J false x.1 y.key ∧ VR n J false x.2 y.val) →
    findA d k es i = some r → ∃ r', Instr.findNow d k' es' i = some r' ∧ (r = none → r' = none) ∧
      (∀ j v, r = some (j, v) → ∃ v', r' = some (j, v') ∧ VR n J false v v' ∧ i ≤ j ∧ j < i + es.length ∧ ∃ e, es[j - i]? = some e ∧ Instr.sameNow d k e.1 = some true)
  | [], [], i, r, _, _, h => by simp [findA] at h; subst h; exact ⟨none, rfl, fun _ => rfl, fun j v e => by cases e⟩
  | [], _ :: _, _, _, hl, _, _ => by simp at hl
  | _ :: _, [], _, _, hl, _, _ => by simp at hl
  | e :: es, e' :: es', i, r, hl, hr, h => by
    obtain ⟨h1, h2⟩ := hr 0 e e' rfl rfl
    simp only [findA] at h
    simp only [Instr.findNow]
    split at h
    · rename_i hs
      cases h
      rw [sameNow_rel hs hk h1]
      refine ⟨_, rfl, (fun e => nomatch e), fun j v hj => ?_⟩
      cases hj
      exact ⟨_, rfl, h2, Nat.le_refl _, by simp, e, by simp, hs⟩
    · rename_i hs
      rw [sameNow_rel hs hk h1]
      obtain ⟨r', h3, h4, h5⟩ := findA_rel hk es es' (i + 1) r (by simpa using hl) (fun i a b ha hb => hr (i + 1) a b (by simpa using ha) (by simpa using hb)) h
      refine ⟨r', h3, h4, fun j v hj => ?_⟩
      obtain ⟨v', e1, e2, e3, e4, x, e5, e6⟩ := h5 j v hj
      refine ⟨v', e1, e2, by omega, by simp; omega, x, ?_, e6⟩
      rw [show j - i = (j - (i + 1)) + 1 by omega]
      simpa using e5
    · cases h

theorem tMap_some {t : TypeId} {d : TypeDesc} {z : Value} (h : tMap P t = some (d, z)) : ∃ kt et i, P.underlying t = some (.map kt et) ∧ P.underlying kt = some d ∧ P.info? et = some i ∧ i.zero = some z ∧
    (∀ n J, VR n J false z z) ∧ ((∃ q, d = .int q) ∨ d = .string ∨ d = .bool) := by
  unfold tMap at h
  split at h
  · rename_i kt et hu
    have hz : ∀ {z}, tZeroV P et = some z → ∃ i, P.info? et = some i ∧ i.zero = some z ∧ (∀ n J, VR n J false z z) := by
      intro z hz
      unfold tZeroV at hz
      split at hz
      · rename_i v hv
        split at hz
        · rename_i hc
          cases hz
          simp only [Bool.and_eq_true] at hc
          cases hi : P.info? et with
          | none => rw [hi] at hv; cases hv
          | some i =>
            rw [hi] at hv
            refine ⟨i, rfl, hv, fun n J => ?_⟩
            cases z with
            | agg cs => exact .agg rfl (VRa.plain (n := n) (J := J) (cs := cs) hc.2).2
            | tuple cs => simp [data] at hc
            | _ => exact .one (.plain (by simpa [Value.cells] using hc.2))
        · cases hz
      · cases hz
    split at h
    · rename_i q z' hk hz'; cases h; obtain ⟨i, h1, h2, h3⟩ := hz hz'; exact ⟨kt, et, i, hu, hk, h1, h2, h3, .inl ⟨_, rfl⟩⟩
    · rename_i z' hk hz'; cases h; obtain ⟨i, h1, h2, h3⟩ := hz hz'; exact ⟨kt, et, i, hu, hk, h1, h2, h3, .inr (.inl rfl)⟩
    · rename_i z' hk hz'; cases h; obtain ⟨i, h1, h2, h3⟩ := hz hz'; exact ⟨kt, et, i, hu, hk, h1, h2, h3, .inr (.inr rfl)⟩
    · cases h
  · cases h

theorem run_checkKey {kt : TypeId} {d : TypeDesc} (hd : P.underlying kt = some d) (hp : (∃ q, d = .int q) ∨ d = .string ∨ d = .bool) (e : Bool) (m : Nat) (k : Value) (w : World) :
    (Instr.checkKey e (m + 1) kt k).run P w = .ok () w := by
  rcases hp with ⟨q, rfl⟩ | rfl | rfl <;> simp [Instr.checkKey, run_underlying hd]

theorem run_checkKey' {kt : TypeId} {d : TypeDesc} (hd : P.underlying kt = some d) (hp : (∃ q, d = .int q) ∨ d = .string ∨ d = .bool) (e : Bool) (k : Value) (w : World) :
    (Instr.checkKey e 10000 kt k).run P w = .ok () w := run_checkKey hd hp e 9999 k w

theorem run_getObj {r : Nat} {es : Array MapEntry} {c : Nat} (h : w.heap[r]? = some (.map es c)) : (getObj r).run P w = .ok (.map es c) w := by
  simp [getObj, Sem.run, h]

theorem lookV_run (hS : Sim G s J w) {t : TypeId} {x x' k k' v : Value} {ok : Bool} (h : lookV (tMap P t) x k ok s = some v) (hx : VR s.next J false x x') (hk : VR s.next J false k k') :
    ∃ v', VR s.next J false v v' ∧ ∀ w2, Holds w w2 → (Instr.lookup t x' k' ok).run P w2 = .ok v' w2 := by
  unfold lookV at h
  split at h
  · rename_i d z hm
    obtain ⟨kt, et, i, hu, hkt, hi, hz, hzz, hp⟩ := tMap_some hm
    split at h
    · rename_i es hes
      obtain ⟨es', hl, hr, hx'⟩ := entries_run hS hes hx
      have both : ∀ (u u' : Value) (b : Bool), VR s.next J false u u' → VR s.next J false (if ok then .tuple #[u, .bool b] else u) (if ok then .tuple #[u', .bool b] else u') := by
        intro u u' b hu
        cases ok with
        | false => exact hu
        | true =>
          refine .tuple rfl (fun i x y hx hy => ?_)
          match i with
          | 0 => simp at hx hy; rw [← hx, ← hy]; exact hu
          | 1 => simp at hx hy; rw [← hx, ← hy]; exact .one (.bool b)
          | j + 2 => simp at hx
      have hrun : ∀ (r' : Option (Nat × Value)) (v' : Value), Instr.findNow d k' es'.toList 0 = some r' → (v' = match r' with | some (_, u) => (if ok then .tuple #[u, .bool true] else u) | none => (if ok then .tuple #[z, .bool false] else z)) →
          ∀ w2, Holds w w2 → (Instr.lookup t x' k' ok).run P w2 = .ok v' w2 := by
        intro r' v' hf hv' w2 hw
        subst hv'
        have hfk : (Instr.findKey kt k' es'.toList).run P w2 = .ok r' w2 := by simp [Instr.findKey, run_underlying hkt, hf]
        rcases hx' with ⟨rfl, rfl⟩ | ⟨r, clock, rfl, hc⟩
        · simp only [Instr.lookup, Sem.run_bind, run_underlying hu, Result.andThen_ok, Sem.run_pure, run_checkKey' hkt hp, hfk]
          cases r' with
          | none => simp [run_zeroValue hi hz]
          | some q => obtain ⟨j, u⟩ := q; simp
        · simp only [Instr.lookup, Sem.run_bind, run_underlying hu, Result.andThen_ok, Sem.run_pure, run_getObj (hc w2 hw), run_checkKey' hkt hp, hfk]
          cases r' with
          | none => simp [run_zeroValue hi hz]
          | some q => obtain ⟨j, u⟩ := q; simp
      split at h
      · rename_i j u hf
        cases h
        obtain ⟨r', h1, h2, h3⟩ := findA_rel hk es es'.toList 0 _ (by simpa using hl) (fun i x y hx hy => hr i x y hx (by simpa using hy)) hf
        obtain ⟨u', rfl, hvu, _⟩ := h3 _ _ rfl
        exact ⟨_, both u u' true hvu, hrun _ _ h1 rfl⟩
      · rename_i hf
        cases h
        obtain ⟨r', h1, h2, h3⟩ := findA_rel hk es es'.toList 0 _ (by simpa using hl) (fun i x y hx hy => hr i x y hx (by simpa using hy)) hf
        cases h2 rfl
        exact ⟨_, both z z false (hzz _ _), hrun _ _ h1 rfl⟩
      · cases h
    · cases h
  · cases h

theorem lenV_run {t : TypeId} {x x' v : Value} {n : Nat} (h : lenV P t x = some v) (hx : VR n J false x x') (ty : TypeId) : VR n J false v v ∧ ∀ w, (Builtin.len_ #[t] ty #[x']).run P w = .ok v w := by
  unfold lenV at h
  split at h
  · rename_i b hu; cases h; cases hx.string_inv
    exact ⟨.one (.int _ _), fun w => by simp [Builtin.len_, run_underlying hu, goInt]⟩
  · rename_i m e hu; cases h
    exact ⟨.one (.int _ _), fun w => by simp [Builtin.len_, run_underlying hu, goInt]⟩
  · rename_i e a m c hu; cases h
    refine ⟨.one (.int _ _), fun w => ?_⟩
    cases a with
    | none => obtain ⟨rfl, _, rfl⟩ := hx.nilSlice_inv; simp [Builtin.len_, run_underlying hu, goInt]
    | some a => obtain ⟨a', c', rfl, _⟩ := hx.slice_inv; simp [Builtin.len_, run_underlying hu, goInt]
  · rename_i hu; cases h; cases hx.nilMap_inv
    exact ⟨.one (.int _ _), fun w => by simp [Builtin.len_, run_underlying hu, goInt]⟩
  · cases h

theorem lenR_run (hS : Sim G s J w) {t : TypeId} {x x' v : Value} (h : lenR P t x s = some v) (hx : VR s.next J false x x') (ty : TypeId) :
    VR s.next J false v v ∧ ∀ w2, Holds w w2 → (Builtin.len_ #[t] ty #[x']).run P w2 = .ok v w2 := by
  unfold lenR at h
  split at h
  · rename_i r
    split at h
    · rename_i hm
      split at h
      · rename_i es hb
        cases h
        obtain ⟨es', clock, hc, hl, _⟩ := hS.obj _ _ hb
        obtain ⟨_, rfl⟩ := hx.map_inv
        have hu : ∃ k e, P.underlying t = some (.map k e) := by
          unfold tIsMap at hm
          split at hm
          · exact ⟨_, _, by assumption⟩
          · cases hm
        obtain ⟨k, e, hu⟩ := hu
        exact ⟨.one (.int _ _), fun w2 hw => by simp [Builtin.len_, run_underlying hu, run_getObj (hw.at hc), goInt, hl]⟩
      · cases h
    · cases h
  · obtain ⟨h1, h2⟩ := lenV_run h hx ty
    exact ⟨h1, fun w2 _ => h2 w2⟩

end Go.Zz
