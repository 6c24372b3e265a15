/- A region that leaves its order open: any order comes to what the calculus says. -/
import Derived.Test.YtcjoihkdaoflfaaGreatN
set_option linter.all false
namespace Go.Zz
open Go

variable {P : Program} {G : Nat} {F : Fence} {C : CallT} {L : List Oper} {p : Plan} {A : Fr}

/-! ### The calculus' side -/

def nextD (P : Program) (C : CallT) (L : List Oper) (p : Plan) (A : Fr) (K : (Nat → Value) → St → Prop) : List Nat → Nat → (Nat → Value) → St → Prop
  | [], _, vals, s => K vals s
  | e :: es, g, vals, s => match L[e]? with
      | some o => stepW o.guard (wantedD vals o.guard) (opW P C o.op (opdD L vals A e)) (fun v s' => evGaps P C L p A K es (g + 1) (setV vals e v) s') s
      | none => False

theorem evGaps_eq (K : (Nat → Value) → St → Prop) (l : List Nat) (g : Nat) (vals : Nat → Value) (s : St) : evGaps P C L p A K l g vals s =
    chksD P L A (runsD P L A (fun vals => alsD P L (nextD P C L p A K l g) (gapAls L p g) vals s) s (gapRuns L p g) vals) vals s (gapChks L p g) := by
  cases l <;> rfl

def DetF (L : List Oper) (vals : Nat → Value) (i : Nat) : Prop := ∀ o, L[i]? = some o → wantedD vals o.guard ≠ none ∧ (wantedD vals o.guard = some false → vals i = .chan none)
def DetT (P : Program) (L : List Oper) (A : Fr) (vals : Nat → Value) (s : St) (i : Nat) : Prop := ∀ o, L[i]? = some o → wantedD vals o.guard = some true → valD P o (opdD L vals A i) s = some (vals i)

theorem mem_srcs_tmp {i d j : Nat} (hd : d ∈ tmpsAt L i) (hj : srcOf L i d = some j) : j ∈ srcs L i :=
  List.mem_append_left _ (List.mem_filterMap.2 ⟨d, hd, hj⟩)
theorem mem_srcs_guard {i j : Nat} {o : Oper} {b : Bool} (ho : L[i]? = some o) (hg : o.guard = some (j, b)) : j ∈ srcs L i := by
  unfold srcs
  rw [ho]
  simp [hg]

theorem Ok.srcs_lt {n : Nat} (ok : Ok P L p n) {i j : Nat} (h : j ∈ srcs L i) : j < i := by
  unfold srcs at h
  rcases List.mem_append.1 h with h | h
  · obtain ⟨d, hd, hj⟩ := List.mem_filterMap.1 h
    exact (lastB_some hj).1
  · cases ho : L[i]? with
    | none => rw [ho] at h; simp at h
    | some o =>
      simp only [ho] at h
      cases hg : o.guard with
      | none => rw [hg] at h; simp at h
      | some jb =>
        obtain ⟨k, b⟩ := jb
        rw [hg] at h
        simp only [List.mem_singleton] at h
        subst h
        exact (ok.grd i o _ b ho hg).1

theorem opdD_congr {vals vals' : Nat → Value} {i : Nat} (h : ∀ j ∈ srcs L i, vals' j = vals j) : opdD L vals' A i = opdD L vals A i := by
  funext x
  cases x <;> try rfl
  rename_i d
  simp only [opdD]
  split
  · rename_i hd
    split
    · rename_i j hj
      exact h j (mem_srcs_tmp (by simpa using hd) hj)
    · rfl
  · rfl

theorem wantedD_congr {vals vals' : Nat → Value} {i : Nat} {o : Oper} (ho : L[i]? = some o) (h : ∀ j ∈ srcs L i, vals' j = vals j) : wantedD vals' o.guard = wantedD vals o.guard := by
  cases hg : o.guard with
  | none => rfl
  | some jb =>
    obtain ⟨j, b⟩ := jb
    simp only [wantedD, h j (mem_srcs_guard ho hg)]

theorem DetF.congr {vals vals' : Nat → Value} {i : Nat} (hs : ∀ j ∈ srcs L i, vals' j = vals j) (hi : vals' i = vals i) (h : DetF L vals i) : DetF L vals' i := by
  intro o ho
  rw [wantedD_congr ho hs, hi]
  exact h o ho
theorem DetT.congr {vals vals' : Nat → Value} {s : St} {i : Nat} (hs : ∀ j ∈ srcs L i, vals' j = vals j) (hi : vals' i = vals i) (h : DetT P L A vals s i) : DetT P L A vals' s i := by
  intro o ho
  rw [wantedD_congr ho hs, hi, opdD_congr hs]
  exact h o ho

theorem runs_spec {n : Nat} (ok : Ok P L p n) {K : (Nat → Value) → Prop} {s : St} : ∀ (l : List Nat) (vals : Nat → Value), l.Pairwise (· < ·) → runsD P L A K s l vals →
    ∃ vals', K vals' ∧ (∀ j, j ∉ l → vals' j = vals j) ∧ ∀ i ∈ l, DetF L vals' i ∧ DetT P L A vals' s i := by
  intro l
  induction l with
  | nil => intro vals _ h; exact ⟨vals, h, fun _ _ => rfl, fun i hi => by simp at hi⟩
  | cons i r ih =>
    intro vals hp h
    obtain ⟨hp1, hp2⟩ := List.pairwise_cons.1 hp
    simp only [runsD] at h
    have go : ∀ (o : Oper) (v : Value), L[i]? = some o → runsD P L A K s r (setV vals i v) → wantedD vals o.guard ≠ none → (wantedD vals o.guard = some false → v = .chan none) →
        (wantedD vals o.guard = some true → valD P o (opdD L vals A i) s = some v) →
        ∃ vals', K vals' ∧ (∀ j, j ∉ i :: r → vals' j = vals j) ∧ ∀ k ∈ i :: r, DetF L vals' k ∧ DetT P L A vals' s k := by
      intro o v ho hr hw hf ht
      obtain ⟨vals', h1, h3, h4⟩ := ih (setV vals i v) hp2 hr
      have hni : i ∉ r := fun hi => by have := hp1 i hi; omega
      have hself : vals' i = v := by rw [h3 i hni, setV_self]
      have hsr : ∀ j ∈ srcs L i, vals' j = vals j := fun j hj => by
        have hlt := ok.srcs_lt hj
        rw [h3 j (fun hj' => by have := hp1 j hj'; omega), setV_other _ (by omega)]
      refine ⟨vals', h1, fun j hj => ?_, fun k hk => ?_⟩
      · simp only [List.mem_cons, not_or] at hj
        rw [h3 j hj.2, setV_other _ (Ne.symm hj.1)]
      · rcases List.mem_cons.1 hk with rfl | hk
        · refine ⟨fun o' ho' => ?_, fun o' ho' hw' => ?_⟩
          · rw [ho] at ho'; cases ho'
            rw [wantedD_congr ho hsr, hself]
            exact ⟨hw, hf⟩
          · rw [ho] at ho'; cases ho'
            rw [wantedD_congr ho hsr] at hw'
            rw [opdD_congr hsr, hself]
            exact ht hw'
        · exact h4 k hk
    split at h
    · rename_i o ho
      unfold optW at h
      split at h
      · rename_i v hv
        cases hw : wantedD vals o.guard with
        | none => rw [hw] at hv; cases hv
        | some b =>
          rw [hw] at hv
          cases b with
          | true => exact go o v ho h (by simp [hw]) (by simp [hw]) (fun _ => hv)
          | false => cases hv; exact go o (.chan none) ho h (by simp [hw]) (fun _ => rfl) (by simp [hw])
      · exact h.elim
    · exact h.elim

theorem chks_spec {K : Prop} {vals : Nat → Value} {s : St} : ∀ (l : List Nat), chksD P L A K vals s l →
    K ∧ ∀ i ∈ l, ∀ o, L[i]? = some o → wantedD vals o.guard = some true → readV P o.op (opdD L vals A i) s = some (vals i)
  | [], h => ⟨h, fun i hi => by simp at hi⟩
  | i :: r, h => by
    simp only [chksD] at h
    split at h
    · rename_i o ho
      unfold chkW at h
      split at h
      · rename_i hw
        obtain ⟨h1, h2⟩ := chks_spec r h.2
        refine ⟨h1, fun k hk o' ho' hw' => ?_⟩
        rcases List.mem_cons.1 hk with rfl | hk
        · rw [ho] at ho'; cases ho'; exact h.1
        · exact h2 k hk o' ho' hw'
      · rename_i hw
        obtain ⟨h1, h2⟩ := chks_spec r h
        refine ⟨h1, fun k hk o' ho' hw' => ?_⟩
        rcases List.mem_cons.1 hk with rfl | hk
        · rw [ho] at ho'; cases ho'; rw [hw] at hw'; cases hw'
        · exact h2 k hk o' ho' hw'
      · exact h.elim
    · exact h.elim

/-- What has its value by gap g. -/
structure Abs0 (P : Program) (L : List Oper) (p : Plan) (A : Fr) (g : Nat) (vals : Nat → Value) : Prop where
  f : ∀ i, i < L.length → isK .e L i = false → isK .a L i = false → p.av.getD i 0 < g → DetF L vals i
  t : ∀ i, isK .p L i = true → p.av.getD i 0 < g → ∀ s, DetT P L A vals s i

theorem isK_kind {k : Kind} {i : Nat} {o : Oper} (ho : L[i]? = some o) : isK k L i = (kindOf o == k) := by simp [isK, ho]

theorem isK_pr {i : Nat} (hi : i < L.length) (he : isK .e L i = false) (ha : isK .a L i = false) : isK .p L i = true ∨ isK .r L i = true := by
  have ho := List.getElem?_eq_getElem hi
  rw [isK_kind ho] at *
  rw [isK_kind ho]
  cases hk : kindOf L[i] <;> simp [hk] at he ha ⊢

theorem isK_excl {k l : Kind} {i : Nat} (h : isK k L i = true) (hkl : k ≠ l) : isK l L i = false := by
  obtain ⟨o, ho⟩ : ∃ o, L[i]? = some o := ⟨_, List.getElem?_eq_getElem (isK_lt h)⟩
  rw [isK_kind ho] at *
  have : kindOf o = k := by simpa using h
  rw [this]
  cases k <;> cases l <;> first | rfl | exact absurd rfl hkl

theorem DetT.any {vals : Nat → Value} {s : St} {i : Nat} (hp : isK .p L i = true) (h : DetT P L A vals s i) (s' : St) : DetT P L A vals s' i := by
  intro o ho hw
  have := h o ho hw
  rw [isK_kind ho] at hp
  have hk : kindOf o = .p := by simpa using hp
  simp only [valD, hk] at this ⊢
  exact this

/-- A gap is entered. -/
theorem enter {n : Nat} (ok : Ok P L p n) {K : (Nat → Value) → St → Prop} {l : List Nat} {g : Nat} {vals : Nat → Value} {s : St} (h0 : Abs0 P L p A g vals)
    (h : evGaps P C L p A K l g vals s) : ∃ vals', alsD P L (nextD P C L p A K l g) (gapAls L p g) vals' s ∧ Abs0 P L p A (g + 1) vals' ∧
      (∀ i, isK .r L i = true → p.av.getD i 0 ≤ g → g ≤ p.hi.getD i 0 → DetT P L A vals' s i) ∧
      ∀ j, ¬ ((isK .p L j = true ∨ isK .r L j = true) ∧ p.av.getD j 0 = g) → vals' j = vals j := by
  rw [evGaps_eq] at h
  obtain ⟨h, hc⟩ := chks_spec _ h
  have hmem : ∀ i, i ∈ gapRuns L p g ↔ ((isK .p L i = true ∨ isK .r L i = true) ∧ p.av.getD i 0 = g) := by
    intro i
    unfold gapRuns
    rw [List.mem_filter, List.mem_range]
    simp only [Bool.and_eq_true, Bool.or_eq_true, beq_iff_eq]
    constructor
    · exact fun h => h.2
    · exact fun h => ⟨h.1.elim isK_lt isK_lt, h⟩
  obtain ⟨vals', h1, h3, h4⟩ := runs_spec ok _ vals (List.Pairwise.filter _ List.pairwise_lt_range) h
  have h5 : ∀ j, ¬ ((isK .p L j = true ∨ isK .r L j = true) ∧ p.av.getD j 0 = g) → vals' j = vals j := fun j hj => h3 j (fun hj' => hj ((hmem j).1 hj'))
  have hsr : ∀ i, i < L.length → isK .e L i = false → isK .a L i = false → p.av.getD i 0 < g → (∀ j ∈ srcs L i, vals' j = vals j) ∧ vals' i = vals i := by
    intro i hi he ha hg
    refine ⟨fun j hj => h5 j ?_, h5 i (fun h => by omega)⟩
    have := ok.avs i hi he ha j hj
    split at this
    · rename_i hje
      intro h
      rcases h.1 with h | h
      · rw [isK_excl hje (by simp)] at h; cases h
      · rw [isK_excl hje (by simp)] at h; cases h
    · intro h; omega
  refine ⟨vals', h1, ⟨fun i hi he ha hg => ?_, fun i hp hg s' => ?_⟩, fun i hr hg hh => ?_, h5⟩
  · by_cases hg' : p.av.getD i 0 = g
    · exact (h4 i ((hmem i).2 ⟨isK_pr hi he ha, hg'⟩)).1
    · obtain ⟨a, b⟩ := hsr i hi he ha (by omega)
      exact (h0.f i hi he ha (by omega)).congr a b
  · by_cases hg' : p.av.getD i 0 = g
    · exact (h4 i ((hmem i).2 ⟨.inl hp, hg'⟩)).2.any hp s'
    · obtain ⟨a, b⟩ := hsr i (isK_lt hp) (isK_excl hp (by simp)) (isK_excl hp (by simp)) (by omega)
      exact (h0.t i hp (by omega) s').congr a b
  · by_cases hg' : p.av.getD i 0 = g
    · exact (h4 i ((hmem i).2 ⟨.inr hr, hg'⟩)).2
    · obtain ⟨a, b⟩ := hsr i (isK_lt hr) (isK_excl hr (by simp)) (isK_excl hr (by simp)) (by omega)
      refine DetT.congr a b (fun o ho hw => ?_)
      have hm : i ∈ gapChks L p g := by
        unfold gapChks
        rw [List.mem_filter, List.mem_range]
        have h1 : p.av.getD i 0 < g := by omega
        exact ⟨isK_lt hr, by rw [hr, decide_eq_true h1, decide_eq_true hh]; rfl⟩
      have := hc i hm o ho hw
      rw [isK_kind ho] at hr
      have hk : kindOf o = .r := by simpa using hr
      simpa only [valD, hk] using this

/-- Other positions are free to change. -/
theorem Abs0.congr {n : Nat} (ok : Ok P L p n) {g : Nat} {vals vals' : Nat → Value} (h : Abs0 P L p A g vals)
    (hv : ∀ j, isK .a L j = false → (isK .e L j = true → ∃ i, i < L.length ∧ isK .e L i = false ∧ isK .a L i = false ∧ p.av.getD i 0 < g ∧ j ∈ p.es.take (p.av.getD i 0)) → vals' j = vals j) : Abs0 P L p A g vals' := by
  have hsr : ∀ i, i < L.length → isK .e L i = false → isK .a L i = false → p.av.getD i 0 < g → (∀ j ∈ srcs L i, vals' j = vals j) ∧ vals' i = vals i := by
    intro i hi he ha hg
    refine ⟨fun j hj => ?_, hv i ha (fun h => by rw [he] at h; cases h)⟩
    have := ok.avs i hi he ha j hj
    split at this
    · rename_i hje
      exact hv j (isK_excl hje (by simp)) (fun _ => ⟨i, hi, he, ha, hg, this⟩)
    · rename_i hje
      exact hv j this.1 (fun h => absurd h hje)
  refine ⟨fun i hi he ha hg => ?_, fun i hp hg s' => ?_⟩
  · obtain ⟨a, b⟩ := hsr i hi he ha hg
    exact (h.f i hi he ha hg).congr a b
  · obtain ⟨a, b⟩ := hsr i (isK_lt hp) (isK_excl hp (by simp)) (isK_excl hp (by simp)) hg
    exact (h.t i hp hg s').congr a b

end Go.Zz
