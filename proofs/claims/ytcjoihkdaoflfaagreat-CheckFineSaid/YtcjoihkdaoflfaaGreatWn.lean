/- What is said of slices.SortFunc is so: by the contract that lies in the library. -/
import Derived.Test.YtcjoihkdaoflfaaGreatWl
import Derived.Test.YtcjoihkdaoflfaaGreatSl
set_option linter.all false
set_option maxRecDepth 20000
namespace Go.Zz
open Go Go.Proofs Go.Sort Go.Shelf

section more
variable {G : Nat} {s : St} {J : Nat → Plc} {w w' : World}
theorem Sim.more (h : Sim G s J w) (hw : ∀ cb, cb < w.heap.size → w'.heap[cb]? = w.heap[cb]?) : Sim G s J w' :=
  ⟨h.live, fun b x hx => (h.obj b x hx).mono (Nat.le_refl _) (fun _ _ => rfl) (hw _ (h.obj b x hx).lt), h.apart, h.glob⟩
theorem Step.more (hw : ∀ cb, cb < w.heap.size → w'.heap[cb]? = w.heap[cb]?) (hs : w.heap.size ≤ w'.heap.size) (h1 : w'.os = w.os) (h2 : w'.output = w.output) (h3 : w'.tape = w.tape) (h4 : w.drawn ≤ w'.drawn) : Step s J w s J w' :=
  ⟨Nat.le_refl _, fun _ _ => rfl, hs, h1, h2, ⟨h3, h4⟩, fun _ _ _ h => h, fun cb c e f hc => ⟨c, (hw cb (Array.getElem?_eq_some_iff.1 hc).1).trans hc, rfl, fun _ _ => rfl⟩, fun cb x hx _ _ => (hw cb (Array.getElem?_eq_some_iff.1 hx).1).trans hx⟩
/-- What is owned by nobody is as it was. -/
theorem Step.block {s' : St} {J' : Nat → Plc} (h : Step s J w s' J' w') {cb : Nat} (hcb : cb < w.heap.size) (hno : ∀ o, ¬ Owned s J cb o) : w'.heap[cb]? = w.heap[cb]? := by
  have hx : w.heap[cb]? = some w.heap[cb] := Array.getElem?_eq_getElem hcb
  generalize w.heap[cb] = x at hx
  by_cases hc : ∃ c e f, x = .cells c e f
  · obtain ⟨c, e, f, rfl⟩ := hc
    obtain ⟨c', h1, h2, h3⟩ := h.row cb c e f hx
    have : c' = c := Array.ext_getElem? fun i => h3 i (hno i)
    rw [h1, hx, this]
  · rw [hx]
    exact h.other cb x hx (fun c e f hh => hc ⟨c, e, f, hh⟩) hno
end more

/-- Nothing is known of the memory. -/
def s00 : St := ⟨fun _ => none, 1000⟩
def J00 : Nat → Plc := fun b => ⟨b, 0, 0, 0⟩
theorem sim00 (w : World) : Sim 1000 s00 J00 w := ⟨fun _ _ h => (by cases h), fun _ _ h => (by cases h), fun _ _ _ _ _ _ _ h => (by cases h), fun g hg => ⟨hg, rfl, rfl⟩⟩
theorem grow_of_step {w w1 : World} {s1 : St} {J1 : Nat → Plc} (h : Step s00 J00 w s1 J1 w1) : ∃ q os, w1 = grow (w.drewN q) os := by
  have hb : ∀ cb, cb < w.heap.size → w1.heap[cb]? = w.heap[cb]? := fun cb hcb => h.block hcb (fun o => by rintro ⟨b, x, hx, _⟩; cases hx)
  refine ⟨w1.drawn - w.drawn, w1.heap.extract w.heap.size w1.heap.size, ?_⟩
  have hd := h.tape.2
  have e1 : w1.heap = w.heap ++ w1.heap.extract w.heap.size w1.heap.size := by
    apply Array.ext_getElem?
    intro i
    by_cases hi : i < w.heap.size
    · rw [Array.getElem?_append_left hi, hb i hi]
    · rw [Array.getElem?_append_right (by omega), Array.getElem?_extract]
      have hs := h.size
      by_cases hi2 : i < w1.heap.size
      · rw [if_pos (by omega)]
        congr 1; omega
      · rw [if_neg (by omega), Array.getElem?_eq_none (by omega)]
  cases w1 with | mk heap tape drawn os output =>
  cases w with | mk heap' tape' drawn' os' output' =>
  have h1 := h.os; have h2 := h.out; have h3 := h.tape.1
  simp only at h1 h2 h3 hd e1
  subst h1; subst h2; subst h3
  simp only [grow, World.drewN, World.mk.injEq]
  refine ⟨e1, ?_, ?_, ?_, ?_⟩ <;> first | trivial | omega

theorem follows : P.follows .mixedOrders = true := by kernel_rfl
/-- All that is said of calls is so, where nothing is laid. -/
theorem bare_sound : Sound P 1000 (CC fun _ => none) := sound_calls (Nat.le_refl _) follows (fun f X h => by cases h)

theorem vrs_plain {n : Nat} {J : Nat → Plc} {l : List Value} (h : ∀ v ∈ l, VR n J false v v) : VRs n J l l.toArray :=
  ⟨by simp, fun i x y hx hy => by simp at hy; rw [hx] at hy; cases hy; exact h x (List.mem_of_getElem? hx)⟩
theorem vr_agg {n : Nat} {J : Nat → Plc} {l : List Value} (h : ∀ v ∈ l, VR n J true v v) : VR n J false (.agg l.toArray) (.agg l.toArray) :=
  .agg rfl fun i x y hx hy => by rw [hx] at hy; cases hy; exact h x (List.mem_of_getElem? (by simpa using hx))
theorem vr_hd {n : Nat} {J : Nat → Plc} (h : Hd) : ∀ v ∈ heldE.cells h, VR n J true v v := fun v hv => by
  simp only [heldE_cells, List.mem_cons, u8s, List.mem_map] at hv
  rcases hv with rfl | rfl | ⟨x, _, rfl⟩
  · exact .int _ _
  · exact .int _ _
  · exact .int _ _

def hdCmp (x y : Hd) : Int := cmp3 x.f y.f
theorem cmp3xlt {a b : Int} : cmp3 a b < 0 ↔ a < b := by
  simp only [cmp3]; split
  · simp [*]
  · split <;> simp [*]
theorem hd_swo : SWO (ltOf hdCmp) where
  irrefl x := by simp [ltOf, hdCmp, cmp3xlt]
  trans x y z := by simp only [ltOf, hdCmp, decide_eq_true_eq, cmp3xlt]; omega
  ntrans x y z := by simp only [ltOf, hdCmp, decide_eq_false_iff_not, cmp3xlt]; omega

theorem cmp_lays (blk off size : Nat) (w : World) : CmpLays P 35 #[] heldE.cells 34 hdCmp blk off size w := by
  intro m os dk _ x y
  have h := bare_sound 35 [.agg (heldE.cells x).toArray, .agg (heldE.cells y).toArray] (fun v _ => v = .int .i64 (hdCmp x y)) s00 (punc2xspec (fun _ _ => rfl) rfl) J00 (sortWorldK heldE.cells 34 w blk off m dk os)
    #[.agg (heldE.cells x).toArray, .agg (heldE.cells y).toArray] (sim00 _) (vrs_plain (fun v hv => by
      simp only [List.mem_cons, List.not_mem_nil, or_false] at hv
      rcases hv with rfl | rfl <;> exact vr_agg (vr_hd _))) (by kernel_rfl)
  rw [callsIn_wide] at h
  refine h.mono ?_
  rintro e w' ⟨v', rfl, v, s1, J1, rfl, hv, _, hst⟩
  rw [hv.int_inv]
  exact ⟨rfl, grow_of_step hst⟩

theorem row_get {α : Type} {w : Nat} {E : Enc α w} {xs : List α} {t : Nat} (h : t < xs.length * w) : ∃ hi : t / w < xs.length, (E.row xs)[t]? = (E.cells xs[t / w])[t % w]? := by
  have hw : 0 < w := by rcases Nat.eq_zero_or_pos w with h0 | h0; · subst h0; simp at h
                        · exact h0
  have hi : t / w < xs.length := (Nat.div_lt_iff_lt_mul hw).2 h
  refine ⟨hi, ?_⟩
  have hm := Nat.mod_lt t hw
  have e1 : t = (E.row (xs.take (t / w))).length + t % w := by
    simp [Nat.min_eq_left (Nat.le_of_lt hi)]
    have := Nat.div_add_mod t w
    rw [Nat.mul_comm] at this
    omega
  rw [Enc.row_split hi, List.getElem?_append_right (by omega)]
  have e2 : t - (E.row (xs.take (t / w))).length = t % w := by omega
  rw [e2, List.getElem?_append_left (by simp [hm])]

theorem flat_row (xs : List Hd) : (flatK heldE.cells 34 xs.toArray).toList = heldE.row xs := by
  apply List.ext_getElem?
  intro t
  by_cases ht : t < xs.length * 34
  · obtain ⟨hi, h2⟩ := row_get (E := heldE) ht
    have h1 := get_flatK heldE.cells 34 xs.toArray t (by simpa using ht)
    have hsz : t < (flatK heldE.cells 34 xs.toArray).size := by simpa using ht
    rw [getElem!_pos (flatK heldE.cells 34 xs.toArray) t hsz] at h1
    have hm : t % 34 < (heldE.cells xs[t / 34]).length := by simp; omega
    rw [Array.getElem?_toList, Array.getElem?_eq_getElem hsz, h1, h2]
    rw [getElem!_pos xs.toArray (t / 34) (by simpa using hi)]
    simp only [List.getElem_toArray]
    rw [getElem!_pos (heldE.cells xs[t / 34]) (t % 34) hm, List.getElem?_eq_getElem hm]
  · rw [List.getElem?_eq_none (by simp; omega), List.getElem?_eq_none (by simp; omega)]

theorem setMany_all {F F' : Array Value} (h : F'.size = F.size) : setMany F 0 F'.toList = F' := by
  refine ext_get! (by simp [h]) fun t ht => ?_
  have ht' : t < F.size := by simpa using ht
  rw [get_setMany F'.toList 0 F t ht', if_pos ⟨Nat.zero_le _, by simp; omega⟩, Nat.sub_zero]
  rw [getElem!_pos F'.toList t (by simp; omega), getElem!_pos F' t (by omega)]
  simp
theorem aE46 (w : World) : (isAgg 83).run P w = .ok true w := Tryz.isAgg83 w
theorem zE46 (w : World) : (Go.sizeOf 83).run P w = .ok 34 w := Tryz.sizeOf83 w
theorem enters19 (args : Array Value) (w : World) : (callFunc 35 args).run P w = .ok (.enter 35 args) w := enters_of Tryz.func35 (by kernel_rfl) rfl args w

/-- What is laid in the sort's place is so. -/
theorem sort_sound : ∀ f X, laidS f = some X → ∀ args Q s, X args Q s → ∀ (J : Nat → Plc) (w : World) (args' : Array Value), Sim 1000 s J w → VRs s.next J args args' → hasBody P f = true → CallsIn Fence.wide 0 P f args' w (CallR 1000 s J w Q) := by
  intro f X hX args Q s hx J w args' hS hA _
  have hf : f = 34 := by
    unfold laidS at hX
    split at hX
    · assumption
    · cases hX
  subst hf
  have hX' : X = SortX := by simp [laidS] at hX; exact hX.symm
  subst hX'
  rw [callsIn_wide]
  have hargs : ∀ {u v : Value}, args = [u, v] → ∃ u' v', args' = #[u', v'] ∧ VR s.next J false u u' ∧ VR s.next J false v v' := by
    rintro u v rfl
    obtain ⟨h1, h2⟩ := hA
    match args', h1 with
    | ⟨[u', v']⟩, _ => exact ⟨u', v', rfl, h2 0 _ _ rfl rfl, h2 1 _ _ rfl rfl⟩
  cases hx with
  | nil hq =>
    obtain ⟨u', v', rfl, hu, hv⟩ := hargs rfl
    have e1 : u' = .slice none 0 0 := hu.nilSlice_inv.2.2
    subst e1
    refine (AnyF.slices_SortFunc_none Tryz.sortHeld none 0 v' w).mono ?_
    rintro e w' ⟨rfl, rfl⟩
    exact ⟨_, rfl, _, s, J, hq, .tuple rfl (fun i x y hx => by simp at hx), hS, .refl _ _ _⟩
  | row hb hbn hlen hlc hq =>
    rename_i b c xs post tl
    obtain ⟨u', v', rfl, hu, hv⟩ := hargs rfl
    obtain ⟨g, cs', hg, _, rfl, hcs, _⟩ := VR.func_inv (f := .func 35) (fs := #[]) (cs := #[]) hv
    cases hg
    have hcs' : cs' = #[] := by cases cs' with | mk l => cases l with
      | nil => rfl
      | cons _ _ => simp at hcs
    subst hcs'
    obtain ⟨a', c', rfl, h1, _, h3, h4, h5, _⟩ := hu.slice_inv
    by_cases h0 : xs = []
    · subst h0
      refine (AnyF.slices_SortFunc_none Tryz.sortHeld (some a') c' (.func (.func 35) #[] #[]) w).mono ?_
      rintro e w' ⟨rfl, rfl⟩
      have := hq [] (.refl _) .nil
      rw [put_same hb] at this
      exact ⟨_, rfl, _, s, J, this, .tuple rfl (fun i x y hx => by simp at hx), hS, .refl _ _ _⟩
    · have hl0 : xs.length ≠ 0 := by simpa using h0
      have ha : a' = ⟨(J b).cb, (J b).k, none⟩ := by
        rcases h5 with h | h
        · omega
        · rw [h]; rfl
      subst ha
      obtain ⟨g1, g2, cc, ce, fr, hc, hsz, hcv, hone, hfr, _⟩ := hS.obj b _ hb
      have hext : xs.length * 34 ≤ (J b).ext := by simp at g1; omega
      have hH : HoldsK heldE.cells 34 w (J b).cb (J b).k xs.toArray := by
        intro j hj
        have hj' : j < xs.length * 34 := by simpa using hj
        have hjr : j < (heldE.row xs).length := by simpa using hj'
        have hfl : (flatK heldE.cells 34 xs.toArray)[j]! = (heldE.row xs)[j] := by
          rw [getElem!_pos (flatK heldE.cells 34 xs.toArray) j hj, ← Array.getElem_toList (by simpa using hj)]
          exact List.getElem_of_eq (flat_row xs) _
        obtain ⟨y, hy, hr⟩ := hcv j (heldE.row xs)[j] (by rw [List.getElem?_append_left hjr, List.getElem?_eq_getElem hjr])
        have hint : y = (heldE.row xs)[j] := by
          obtain ⟨hi, h2⟩ := row_get (E := heldE) hj'
          have hmem : (heldE.row xs)[j] ∈ heldE.cells xs[j / 34] := by
            rw [List.getElem?_eq_getElem hjr] at h2
            exact List.mem_of_getElem? h2.symm
          generalize (heldE.row xs)[j] = q at *
          simp only [heldE_cells, List.mem_cons, u8s, List.mem_map] at hmem
          rcases hmem with rfl | rfl | ⟨z, _, rfl⟩ <;> exact hr.int_inv
        refine ⟨?_, ?_⟩
        · rw [hfl, ← hint]
          simp only [World.cell?, hc]
          simpa using hy
        · have := hfr j (by omega)
          simp only [World.frozen?, hc]
          simp
          omega
      have hblk : (J b).cb < w.heap.size := (Array.getElem?_eq_some_iff.1 hc).1
      refine (AnyQ.slices_SortFunc Tryz.sortHeld 34 aE46 zE46 heldE.cells heldE.len (fun x v hv => (vr_hd (n := 0) (J := J) x v hv).one_right) hdCmp hd_swo 35 #[] (J b).cb (J b).k c' xs.toArray w enters19 (cmp_lays _ _ _ _) hH hblk (by simp; omega)).mono ?_
      rintro e w' ⟨rfl, d', n, os, hp, hsrt, rfl⟩
      have hsz' : d'.size = xs.length := by simpa using hp.1
      have hperm : d'.toList.Perm xs := by
        have := hp.2.2
        rw [← hp.1] at this
        simp only [Array.extract_size] at this
        rw [hp.1] at this
        simpa using this
      have hpw : d'.toList.Pairwise fun x y => x.f ≤ y.f := by
        rw [List.pairwise_iff_getElem]
        intro i j hi hj hij
        have hi' : i < d'.size := by simpa using hi
        have hj' : j < d'.size := by simpa using hj
        have := hsrt i j (Nat.zero_le _) hij (by simpa [hsz'] using hj')
        rw [getElem!_pos d' i hi', getElem!_pos d' j hj'] at this
        simp only [ltOf, hdCmp, decide_eq_false_iff_not, cmp3xlt] at this
        simp only [Array.getElem_toList]
        omega
      have hrow : (flatK heldE.cells 34 d').toList = heldE.row d'.toList := by
        have := flat_row d'.toList
        simpa using this
      -- the machine's memory behind it
      have hS1 : Sim 1000 s J (Go.Sort.ahead w n) := hS.more (fun _ _ => rfl)
      have hSt1 : Step s J w s J (Go.Sort.ahead w n) := Step.more (fun _ _ => rfl) (Nat.le_refl _) rfl rfl rfl (Nat.le_add_right _ _)
      have hW : putRowK heldE.cells 34 (Go.Sort.ahead w n) (J b).cb (J b).k d' = (Go.Sort.ahead w n).setCells (J b).cb ((J b).k + 0) (heldE.row d'.toList) := by
        have h1 := setCells_putRow (Go.Sort.ahead w n) (J b).cb (J b).k (heldE.row d'.toList) 0 (flatK heldE.cells 34 xs.toArray) (by simp; omega)
        rw [show putRow id (Go.Sort.ahead w n) (J b).cb (J b).k (flatK heldE.cells 34 xs.toArray) = Go.Sort.ahead w n from putRow_self id (Go.Sort.ahead w n) (J b).cb (J b).k _ (holdsK_ahead heldE.cells 34 w n (J b).cb (J b).k xs.toArray hH)] at h1
        rw [h1, ← hrow, setMany_all (by simp; omega)]
        rfl
      have hlen' : (heldE.row d'.toList).length = xs.length * 34 := by simp; omega
      obtain ⟨w1, w2⟩ := hS1.write hb 0 (heldE.row d'.toList) (heldE.row d'.toList) rfl (fun i x y hx hy => by
        rw [hx] at hy; cases hy
        have hm := List.mem_of_getElem? hx
        simp only [Enc.row, List.mem_flatMap] at hm
        obtain ⟨h, _, hm⟩ := hm
        exact vr_hd h x hm) (Nat.zero_le _) (by omega)
      have hlw : lwr (heldE.row xs ++ post) 0 (heldE.row d'.toList) = heldE.row d'.toList ++ post := by
        have := lwr_at (pre := []) (mid := heldE.row xs) (post := post) (xs := heldE.row d'.toList) (by simp; omega)
        simpa using this
      rw [hlw, ← hW] at w1 w2
      have hgrow : ∀ cb, cb < (putRowK heldE.cells 34 (Go.Sort.ahead w n) (J b).cb (J b).k d').heap.size → (sortWorldK heldE.cells 34 w (J b).cb (J b).k n d' os).heap[cb]? = (putRowK heldE.cells 34 (Go.Sort.ahead w n) (J b).cb (J b).k d').heap[cb]? := fun cb hcb => by
        simp only [sortWorldK, grow]
        rw [Array.getElem?_append_left hcb]
      refine ⟨_, rfl, _, _, J, hq d'.toList hperm hpw, .tuple rfl (fun i x y hx => by simp at hx), w1.more hgrow, hSt1.trans (w2.trans (Step.more hgrow ?_ rfl rfl rfl (Nat.le_refl _)))⟩
      simp [sortWorldK, grow]

end Go.Zz
