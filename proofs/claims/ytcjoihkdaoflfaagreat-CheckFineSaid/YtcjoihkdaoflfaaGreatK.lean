/- Append; all operations that change something but calls, in one theorem. -/
import Derived.Test.YtcjoihkdaoflfaaGreatJ
set_option linter.all false
namespace Go.Zz
open Go

variable {P : Program} {G : Nat} {s : St} {J : Nat → Plc} {w : World}

theorem VRa.append {n : Nat} {a a' b b' : Array Value} (h : VRa n J a a') (h' : VRa n J b b') : VRa n J (a ++ b) (a' ++ b') := by
  refine ⟨by simp [h.1, h'.1], fun i x y hx hy => ?_⟩
  by_cases hi : i < a.size
  · rw [Array.getElem?_append_left hi] at hx
    rw [Array.getElem?_append_left (by rw [← h.1]; exact hi)] at hy
    exact h.2 i x y hx hy
  · rw [Array.getElem?_append_right (by omega)] at hx
    rw [Array.getElem?_append_right (by have := h.1; omega), ← h.1] at hy
    exact h'.2 _ x y hx hy

/-- A new row that goes on behind what is known of it. -/
theorem Sim.grown (h : Sim G s J w) {cells : List Value} {cs rest : Array Value} {e : TypeId} {z : Nat} (hr : VRa s.next J cells.toArray cs) (ho : ∀ v ∈ rest, v.oneCell' = true)
    {nl c : Nat} (hz : 0 < z) (hc : c ≤ 9223372036854775807) (hnl : nl ≤ c) (hsz : (cs ++ rest).size = c * z) :
    ∃ J', VR (s.next + 1) J' false (.slice (some ⟨s.next, 0, none⟩) nl (top + z)) (.slice (some ⟨w.heap.size, 0, none⟩) nl c) ∧
      Sim G (s.alloc (.cells cells true)) J' (w.drew.alloc (.cells (cs ++ rest) e)) ∧ Step s J w (s.alloc (.cells cells true)) J' (w.drew.alloc (.cells (cs ++ rest) e)) := by
  have hlen : cells.length = cs.size := by simpa using hr.1
  have hJ : ∀ b, b < s.next → putJ J s.next ⟨w.heap.size, 0, c * z, z⟩ b = J b := fun b hb => by simp [putJ, Nat.ne_of_lt hb]
  have hall : ∀ i, i < c * z → ∃ y, (cs ++ rest)[i]? = some y ∧ y.oneCell' = true := fun i hi => by
    have hi' : i < (cs ++ rest).size := by omega
    refine ⟨_, Array.getElem?_eq_getElem hi', ?_⟩
    by_cases h1 : i < cs.size
    · rw [Array.getElem_append_left h1]
      have h2 : i < cells.toArray.size := by rw [hr.1]; exact h1
      exact (hr.2 i _ _ (Array.getElem?_eq_getElem h2) (Array.getElem?_eq_getElem h1)).one_right
    · rw [Array.getElem_append_right (by omega)]
      exact ho _ (Array.getElem_mem _)
  have hO : ObjR (s.next + 1) (putJ J s.next ⟨w.heap.size, 0, c * z, z⟩) ⟨w.heap.size, 0, c * z, z⟩ (w.drew.alloc (.cells (cs ++ rest) e)) (.cells cells true) := by
    refine ⟨?_, (fun he => nomatch he), cs ++ rest, e, (0, 0), (by show (w.drew.heap.push _)[w.heap.size]? = _; exact Array.getElem?_push_size), ?_, fun i x hx => ?_, fun i hi => ?_, fun i _ hh => ?_, fun _ => rfl⟩
    · show cells.length ≤ c * z
      have : cs.size ≤ (cs ++ rest).size := by simp
      omega
    · show 0 + c * z ≤ (cs ++ rest).size
      omega
    · have hi : i < cs.size := by rw [← hlen]; exact (List.getElem?_eq_some_iff.1 hx).1
      have hg := Array.getElem?_eq_getElem (xs := cs) (i := i) hi
      refine ⟨cs[i], ?_, (hr.2 i x _ (by simpa using hx) hg).mono (Nat.le_succ _) hJ⟩
      show (cs ++ rest)[0 + i]? = _
      rw [Nat.zero_add, Array.getElem?_append_left hi, hg]
    · show ∃ y, (cs ++ rest)[0 + i]? = some y ∧ _
      rw [Nat.zero_add]
      exact hall i hi
    · have : (0 : Nat) + i < 0 := hh.2
      omega
  obtain ⟨g1, g2⟩ := (Sim.drew h).new (.cells cells true) (.cells (cs ++ rest) e) ⟨w.heap.size, 0, c * z, z⟩ rfl hO
  refine ⟨_, ?_, g1, (Step.drew s J w).trans g2⟩
  refine .one (.slice (a := ⟨s.next, 0, none⟩) (Nat.lt_succ_self _) rfl hnl hc (.inr (by simp [tr, putJ])) (.inr ⟨by simp [putJ], by simpa [putJ] using hz, ?_⟩))
  simp [putJ]

theorem oneCell_made {z : Array Value} (hp : z.all plain = true) (n : Nat) : ∀ v ∈ madeCells z n, v.oneCell' = true := by
  intro v hv
  obtain ⟨i, hi, rfl⟩ := Array.getElem_of_mem hv
  have h := zeros_rel (n := 0) (J := fun _ => ⟨0, 0, 0, 0⟩) (z := z.toList) rfl hp n
  have hs : i < (zeros z.toList n).toArray.size := by rw [h.1]; exact hi
  exact (h.2 i _ _ (Array.getElem?_eq_getElem hs) (Array.getElem?_eq_getElem hi)).one_right

/-- What is appended, on the machine's side: how the two roads of 'append' then go. -/
structure AppR (P : Program) (w : World) (t ty e : TypeId) (u : TypeId) (y' : Value) (i : TypeInfo) (zv : Value) (m : Nat) (cs' : Array Value) : Prop where
  room : ∀ (base : Option Addr) (l c : Nat), l + m ≤ c → ∀ (w1 : World), ((match base with | some a => storeCells (a.add (l * i.size)) cs'.toList | none => pure ()) : Sem Unit).run P w = .ok () w1 →
    (Builtin.append_ #[t, u] ty #[.slice base l c, y']).run P w = .ok (.slice base (l + m) c) w1
  grow : ∀ (base : Option Addr) (l c : Nat) (old : Array Value), c < l + m → (l + m) * i.bytes ≤ 140737488355328 → l + m ≤ 140737488355328 → (Builtin.firstCells i.size l (.slice base l c)).run P w.drew = .ok old w.drew →
    (Builtin.append_ #[t, u] ty #[.slice base l c, y']).run P w = .ok (.slice (some ⟨w.heap.size, 0, none⟩) (l + m) (grownCap w (l + m) c e))
        (w.drew.alloc (.cells (old ++ cs' ++ Builtin.zeroCells zv.cells (grownCap w (l + m) c e - (l + m))) e))

theorem appR_of {t ty e u : TypeId} {y' : Value} {i : TypeInfo} {zv : Value} {m : Nat} {cs' : Array Value} {zz : Bool}
    (hu : P.underlying t = some (.slice e)) (hi : P.info? e = some i) (hzv : i.zero = some zv) (hz : tZeros P u = some zz)
    (hn : if zz then ∃ k l, y' = .int k l ∧ 0 ≤ l ∧ l.toNat = m ∧ l * i.bytes ≤ 140737488355328 ∧ l ≤ 140737488355328 else ∀ w, (Builtin.lenOf y').run P w = .ok m w)
    (ha : if zz then cs' = Builtin.zeroCells zv.cells m ∧ (m * i.size = 0 → cs' = #[]) else ∀ w2, Holds w w2 → (Builtin.firstCells i.size m y').run P w2 = .ok cs' w2) : AppR P w t ty e u y' i zv m cs' := by
  have hfit : ∀ {l c : Nat}, c < l + m → (l + m) * i.bytes ≤ 140737488355328 → ¬ (281474976710656 < Builtin.nextslicecap (l + m) c * i.bytes) := fun h h' => by
    have := growslice_fits (bytes := i.bytes) h h'; omega
  have hd1 : Holds w w.drew := Holds.refl w
  unfold tZeros at hz
  split at hz
  · rename_i q hq
    cases hz
    simp only [if_true] at hn ha
    obtain ⟨k, l0, rfl, g0, rfl, g1, g2⟩ := hn
    obtain ⟨hcs, hcs0⟩ := ha
    have wl : IntKind.i64.wrap l0 = l0 := by rw [IntKind.wrap_i64]; omega
    have n1 : ¬ l0 < 0 := by omega
    have n2 : ¬ (281474976710656 < l0 * (i.bytes : Int)) := by omega
    constructor
    · intro base l c hle w1 hst
      have hle' : l + l0.toNat ≤ c := hle
      by_cases hms : l0.toNat * i.size = 0
      · have := hcs0 hms
        rw [this] at hst
        cases base with
        | none => simp [Builtin.append_, run_underlying hu, run_underlying hq, sizeOf, typeInfo, hi, asInt, asIntOf, wl, n1, n2, hle', hms]; simpa using hst
        | some a => simp at hst; simp [Builtin.append_, run_underlying hu, run_underlying hq, sizeOf, typeInfo, hi, asInt, asIntOf, wl, n1, n2, hle', hms, hst]
      · rw [hcs] at hst
        cases base with
        | none => simp [Builtin.append_, run_underlying hu, run_underlying hq, sizeOf, typeInfo, hi, asInt, asIntOf, wl, n1, n2, hle', hms, run_zeroValue hi hzv]; simpa using hst
        | some a => simp at hst; simp [Builtin.append_, run_underlying hu, run_underlying hq, sizeOf, typeInfo, hi, asInt, asIntOf, wl, n1, n2, hle', hms, run_zeroValue hi hzv, hst]
    · intro base l c old hlt hb hb' hold
      have hn' : ¬ (l + l0.toNat ≤ c) := by omega
      have h63 : ¬ (9223372036854775807 < (l : Int) + max l0 0) := by omega
      have hq48 := hfit hlt hb
      by_cases hms : l0.toNat * i.size = 0
      · rw [hcs0 hms]
        simp [Builtin.append_, run_underlying hu, run_underlying hq, sizeOf, typeInfo, hi, asInt, asIntOf, wl, n1, n2, hn', h63, hq48, Question.forced, hold, hms, run_zeroValue hi hzv, newRow, grownCap]
      · rw [hcs]
        simp [Builtin.append_, run_underlying hu, run_underlying hq, sizeOf, typeInfo, hi, asInt, asIntOf, wl, n1, n2, hn', h63, hq48, Question.forced, hold, hms, run_zeroValue hi hzv, newRow, grownCap]
  · rename_i d hne hd
    cases hz
    simp only [Bool.false_eq_true, if_false] at hn ha
    constructor
    · intro base l c hle w1 hst
      have hf := ha w (Holds.refl w)
      cases base with
      | none =>
        simp [Builtin.append_, run_underlying hu, run_underlying hd, sizeOf, typeInfo, hi, hn, hle, hf]
        simpa using hst
      | some a =>
        simp at hst
        simp [Builtin.append_, run_underlying hu, run_underlying hd, sizeOf, typeInfo, hi, hn, hle, hf, hst]
    · intro base l c old hlt hb hb' hold
      have hn' : ¬ (l + m ≤ c) := by omega
      have h63 : ¬ (9223372036854775807 < (l : Int) + m) := by omega
      have hq48 := hfit hlt hb
      have hf := ha w.drew hd1
      simp [Builtin.append_, run_underlying hu, run_underlying hd, sizeOf, typeInfo, hi, hn, hn', h63, hq48, Question.forced, hold, hf, run_zeroValue hi hzv, newRow, grownCap]
  · cases hz

theorem newsA_run (hS : Sim G s J w) {t ty e u : TypeId} {z b : Nat} {zero : List Value} (ht : tSlice P t = some (e, z, b, zero)) {y y' : Value} {m : Nat} {cs : List Value}
    (h : newsA P u z b zero y s = some (m, cs)) (hy : VR s.next J false y y') :
    ∃ i zv cs', P.info? e = some i ∧ i.size = z ∧ i.bytes = b ∧ i.zero = some zv ∧ zv.cells.all plain = true ∧ zv.cells.size = z ∧ 0 < z ∧ cs.length = m * z ∧ VRa s.next J cs.toArray cs' ∧ AppR P w t ty e u y' i zv m cs' := by
  obtain ⟨hu, i, zv, hi, hsz, hbb, hzv, hp, hzl, hzlen, hpos⟩ := tSlice_some ht
  have hzsz : zv.cells.size = z := by rw [← hzlen, ← hzl]; simp
  unfold newsA at h
  split at h
  · rename_i n q hz
    split at h
    · rename_i hc
      cases h
      cases hy.int_inv
      have hzc : Builtin.zeroCells zv.cells q.toNat = madeCells zv.cells (q.toNat * z) := by rw [zeroCells_eq, hzsz]
      refine ⟨i, zv, madeCells zv.cells (q.toNat * z), hi, hsz, hbb, hzv, hp, hzsz, hpos, by simp [zeros], zeros_rel hzl hp _, appR_of hu hi hzv hz ?_ ?_⟩
      · exact ⟨_, q, rfl, hc.1, rfl, by rw [hbb]; exact hc.2.1, hc.2.2⟩
      · refine ⟨hzc.symm, fun h0 => ?_⟩
        rw [← hsz, h0]
        simp [madeCells]
    · cases h
  · rename_i a l c hz
    cases hsc : sliceCells z (.slice a l c) s with
    | none => rw [hsc] at h; cases h
    | some cs0 =>
      rw [hsc] at h
      cases h
      obtain ⟨a', c', rfl, hlen, ys, hyl, hrel, hcell⟩ := sliceCells_run hS hsc hy
      refine ⟨i, zv, ys.toArray, hi, hsz, hbb, hzv, hp, hzsz, hpos, hlen, ⟨by simp [hyl], fun i x y hx hy => hrel i x y (by simpa using hx) (by simpa using hy)⟩, appR_of hu hi hzv hz ?_ ?_⟩
      · exact fun w => by simp [Builtin.lenOf]
      · intro w2 hw
        rw [hsz]
        exact firstCells_of (by rw [hyl, hlen]) (fun j u hj => hcell w2 hw j u hj)
  · rename_i bs hz
    split at h
    · rename_i hz1
      cases h
      cases hy.string_inv
      refine ⟨i, zv, (byteCells bs).toArray, hi, hsz, hbb, hzv, hp, hzsz, hpos, by simp [byteCells, hz1], ⟨rfl, fun i x y hx hy => byteCells_rel bs i x y (by simpa using hx) (by simpa using hy)⟩, appR_of hu hi hzv hz ?_ ?_⟩
      · exact fun w => by simp [Builtin.lenOf]
      · intro w2 _
        simp only [Builtin.firstCells, Sem.run_pure]
        congr 1
        apply Array.ext'
        simp [byteCells, ByteArray.extract, ByteArray.copySlice]
        exact List.take_of_length_le (by simp)
    · cases h
  · cases h

theorem appW_run (hS : Sim G s J w) {t ty e u : TypeId} {z b : Nat} {zero : List Value} (ht : tSlice P t = some (e, z, b, zero)) {x x' y y' : Value} {k : Post}
    (h : appW z b x (newsA P u z b zero y s) k s) (hx : VR s.next J false x x') (hy : VR s.next J false y y') :
    ∃ v' w', (Builtin.append_ #[t, u] ty #[x', y']).run P w = .ok v' w' ∧ After G s J w k v' w' := by
  unfold appW at h
  split at h
  · -- to nil
    rename_i m cs hn
    obtain ⟨i, zv, cs', hi, hsz, hbb, hzv, hp, hzsz, hpos, hlen, hrel, hA⟩ := newsA_run (ty := ty) hS ht hn hy
    obtain ⟨_, _, rfl⟩ := hx.nilSlice_inv
    split at h
    · rename_i h0
      subst h0
      refine ⟨_, w, hA.room none 0 0 (by omega) w rfl, _, s, J, h, ?_, hS, .refl _ _ _⟩
      exact .one .nilSlice
    · rename_i h0
      obtain ⟨hb1, hb2, hk⟩ := h
      have hcap := grownCap_ge w m 0 e
      have hcap2 := grownCap_le_maxLen w m 0 e (by unfold maxLen; omega)
      unfold maxLen at hcap2
      have hg := hA.grow none 0 0 #[] (by omega) (by rw [hbb, Nat.zero_add]; exact hb1) (by omega) (by simp [Builtin.firstCells])
      simp only [Nat.zero_add, Array.empty_append] at hg
      have hcs' : cs'.size = m * z := by rw [← hlen, ← hrel.1]; simp
      obtain ⟨J', r1, r2, r3⟩ := hS.grown (e := e) (z := z) hrel (oneCell_made hp ((grownCap w m 0 e - m) * z)) (nl := m) hpos hcap2 hcap (by
        rw [Array.size_append, hcs', size_madeCells, ← Nat.add_mul]; congr 1; omega)
      refine ⟨_, _, hg, _, _, J', hk, r1, ?_, ?_⟩
      · rw [zeroCells_eq, hzsz]; exact r2
      · rw [zeroCells_eq, hzsz]; exact r3
  · -- to a slice
    rename_i a l c m cs hn
    obtain ⟨i, zv, cs', hi, hsz, hbb, hzv, hp, hzsz, hpos, hlen, hrel, hA⟩ := newsA_run (ty := ty) hS ht hn hy
    obtain ⟨a', c', rfl, hb, hs, hl, hc, ha, hcap⟩ := hx.slice_inv
    have hcs' : cs'.size = m * z := by rw [← hlen, ← hrel.1]; simp
    split at h
    · rename_i h0
      subst h0
      have : cs' = #[] := by simpa using hcs'
      subst this
      exact ⟨_, w, hA.room (some a') l c' (by omega) w (by simp [storeCells]), _, s, J, h, hx, hS, .refl _ _ _⟩
    · rename_i h0
      obtain ⟨hb1, hb2, h⟩ := h
      split at h
      · rename_i vs tail hrow
        obtain ⟨hle, h⟩ := h
        have hext := (hS.obj _ _ hrow).1
        -- in place
        have inplace : ∀ q, l + m ≤ c' → a.off + (l + m) * z ≤ (J a.block).ext → (q = c' ∨ (q = top + (J a.block).w ∧ 0 < (J a.block).w ∧ a.off + c' * (J a.block).w = (J a.block).ext)) →
            k (.slice (some a) (l + m) q) (s.put a.block (.cells (lwr vs (a.off + l * z) cs) tail)) →
            ∃ v' w', (Builtin.append_ #[t, u] ty #[.slice (some a') l c', y']).run P w = .ok v' w' ∧ After G s J w k v' w' := by
          intro q hq hfit hqc hk
          have ha' : a' = tr (J a.block) a := ha.resolve_left (by omega)
          obtain ⟨w', e1, e2, e3⟩ := hS.put (P := P) hrow (a.off + l * z) cs cs'.toList (by rw [hlen]; simpa using hcs'.symm) (fun i x y hx hy => hrel.2 i x y (by simpa using hx) (by simpa using hy)) hle (by rw [hlen, Nat.add_assoc, ← Nat.add_mul]; exact hfit)
          refine ⟨_, w', hA.room (some a') l c' hq w' ?_, _, _, J, hk, ?_, e2, e3⟩
          · rw [ha', hsz]
            show (storeCells ((tr (J a.block) a).add (l * z)) cs'.toList).run P w = .ok () w'
            rw [tr_add]
            simpa [tr] using e1
          · exact .one (.slice hb hs hq hc (.inr ha') hqc)
        -- in new memory
        have anew : c' < l + m → grewW z (l + m) ((vs.drop a.off).take (l * z) ++ cs) k s →
            ∃ v' w', (Builtin.append_ #[t, u] ty #[.slice (some a') l c', y']).run P w = .ok v' w' ∧ After G s J w k v' w' := by
          intro hlt hk
          obtain ⟨ys, g1, g2, g3⟩ := hS.cells (w := w) hrow hle
          have hold : (Builtin.firstCells i.size l (.slice (some a') l c')).run P w.drew = .ok ys.toArray w.drew := by
            rw [hsz]
            refine firstCells_of g1 (fun j u hj => ⟨a', rfl, ?_⟩)
            have hjl := (List.getElem?_eq_some_iff.1 hj).1
            have ha' : a' = tr (J a.block) a := ha.resolve_left (by
              intro hc0
              have h00 : l = 0 := by omega
              rw [g1, h00, Nat.zero_mul] at hjl
              omega)
            rw [ha']
            exact g3 w.drew (Holds.refl w) j u hj
          have hg := hA.grow (some a') l c' ys.toArray hlt (by rw [hbb]; exact hb1) hb2 hold
          have hcap1 := grownCap_ge w (l + m) c' e
          have hcap2 := grownCap_le_maxLen w (l + m) c' e (by unfold maxLen; omega)
          unfold maxLen at hcap2
          have hrel' : VRa s.next J ((vs.drop a.off).take (l * z) ++ cs).toArray (ys.toArray ++ cs') := by
            rw [← List.append_toArray]
            refine VRa.append ⟨?_, fun i x y hx hy => g2 i x y (by simpa using hx) (by simpa using hy)⟩ hrel
            simp [g1]; omega
          obtain ⟨J', r1, r2, r3⟩ := hS.grown (e := e) (z := z) hrel' (oneCell_made hp ((grownCap w (l + m) c' e - (l + m)) * z)) (nl := l + m) hpos hcap2 hcap1 (by
            rw [Array.size_append, Array.size_append, hcs', size_madeCells]
            simp only [List.size_toArray, g1]
            rw [← Nat.add_mul, ← Nat.add_mul]; congr 1; omega)
          refine ⟨_, _, hg, _, _, J', hk, r1, ?_, ?_⟩
          · rw [zeroCells_eq, hzsz]; exact r2
          · rw [zeroCells_eq, hzsz]; exact r3
        split at h
        · rename_i hct
          have hw : z = (J a.block).w ∧ 0 < (J a.block).w ∧ a.off + c' * (J a.block).w = (J a.block).ext := by
            rcases hcap with h1 | ⟨h1, h3, h4⟩
            · exfalso; unfold top at *; omega
            · exact ⟨by unfold top at *; omega, h3, h4⟩
          obtain ⟨w1, w2, w3⟩ := hw
          have hmul : l + m ≤ c' ↔ a.off + (l + m) * z ≤ (J a.block).ext := by
            rw [← w3, ← w1]
            constructor
            · intro hh; have := Nat.mul_le_mul_right z hh; omega
            · intro hh; exact Nat.le_of_mul_le_mul_right (by omega : (l + m) * z ≤ c' * z) hpos
          split at h
          · rename_i hin
            exact inplace c (hmul.2 (by omega)) (by omega) (.inr ⟨by rw [hct, w1], w2, w3⟩) h
          · rename_i hin
            by_cases hroom : l + m ≤ c'
            · have htail : tail = true := by
                cases tail with
                | true => rfl
                | false =>
                  have := (hS.obj _ _ hrow).2.1 rfl
                  have := hmul.1 hroom
                  omega
              exact inplace c hroom (hmul.1 hroom) (.inr ⟨by rw [hct, w1], w2, w3⟩) (h.2 htail)
            · exact anew (by omega) h.1
        · rename_i hct
          obtain ⟨hct2, h⟩ := h
          have hcc : c = c' := by
            rcases hcap with h1 | ⟨h1, _⟩
            · exact h1
            · exfalso; unfold top at *; omega
          subst hcc
          split at h
          · rename_i hroom
            exact inplace c hroom (by omega) (.inl rfl) h.2
          · exact anew (by omega) h
      · exact h.elim
  · exact h.elim

end Go.Zz
