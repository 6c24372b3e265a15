/- A region that leaves its order open is as the calculus says. -/
import Derived.Test.YtcjoihkdaoflfaaGreatP
set_option linter.all false
namespace Go.Zz
open Go

variable {P : Program} {G : Nat} {F : Fence} {C : CallT} {L : List Oper} {p : Plan} {A : Fr}

abbrev Late (L : List Oper) (p : Plan) (g : Nat) : Nat → Prop := fun j => isK .a L j = true ∧ g ≤ p.av.getD j 0

structure Stt (P : Program) (G N : Nat) (C : CallT) (L : List Oper) (p : Plan) (A : Fr) (K : (Nat → Value) → St → Prop) (s0 : St) (J0 : Nat → Plc) (w0 : World) (a0 : Act) (S : Nat → Prop) (g : Nat) (vals : Nat → Value) (s : St) (J : Nat → Plc) (cv : Nat → Value) (a : Act) (w : World) : Prop where
  gle : g ≤ p.es.length
  bnd : ∀ j, S j → j < L.length
  clo : Closed L S
  R : Rel P G N L A s0 J0 w0 a0 S (Late L p g) vals s J w cv
  frm : Frm L S cv a0 a
  pre : ∀ k, k < p.es.length → (S (p.es.getD k 0) ↔ k < g)
  abs : Abs0 P L p A (g + 1) vals
  rds : ∀ i, isK .r L i = true → p.av.getD i 0 ≤ g → g ≤ p.hi.getD i 0 → DetT P L A vals s i
  nxt : alsD P L (nextD P C L p A K (p.es.drop g) g) (gapAls L p g) vals s

section
variable {K : (Nat → Value) → St → Prop} {s0 s : St} {J0 J : Nat → Plc} {w0 w : World} {a0 a : Act} {S : Nat → Prop} {g n N : Nat} {vals : Nat → Value} {cv : Nat → Value}

theorem Ok.es_lt (ok : Ok P L p n) {k : Nat} (hk : k < p.es.length) : p.es.getD k 0 < L.length ∧ isK .e L (p.es.getD k 0) = true := by
  have hm : p.es.getD k 0 ∈ p.es := by
    rw [List.getD_eq_getElem?_getD, List.getElem?_eq_getElem hk]; exact List.getElem_mem hk
  rw [ok.es, List.mem_filter, List.mem_range] at hm
  rw [ok.es]
  exact hm

theorem Ok.nodup (ok : Ok P L p n) : p.es.Nodup := by rw [ok.es]; exact List.Pairwise.filter _ List.nodup_range

theorem Ok.es_inj (ok : Ok P L p n) {k l : Nat} (hk : k < p.es.length) (hl : l < p.es.length) (h : p.es.getD k 0 = p.es.getD l 0) : k = l := by
  rw [List.getD_eq_getElem?_getD, List.getD_eq_getElem?_getD, List.getElem?_eq_getElem hk, List.getElem?_eq_getElem hl] at h
  have hp := List.pairwise_iff_getElem.1 (show p.es.Pairwise (· ≠ ·) from ok.nodup)
  have h : p.es[k] = p.es[l] := by simpa using h
  rcases Nat.lt_trichotomy k l with hlt | heq | hgt
  · exact absurd h (hp k l hk hl hlt)
  · exact heq
  · exact absurd h.symm (hp l k hl hk hgt)

theorem Ok.es_mem (ok : Ok P L p n) {i : Nat} (h : isK .e L i = true) : ∃ k, k < p.es.length ∧ p.es.getD k 0 = i := by
  have hm : i ∈ p.es := by rw [ok.es, List.mem_filter, List.mem_range]; exact ⟨isK_lt h, h⟩
  obtain ⟨k, hk, he⟩ := List.mem_iff_getElem.1 hm
  exact ⟨k, hk, by rw [List.getD_eq_getElem?_getD, List.getElem?_eq_getElem hk]; exact he⟩

theorem mem_gapAls {i : Nat} : i ∈ gapAls L p g ↔ isK .a L i = true ∧ p.av.getD i 0 = g := by
  unfold gapAls
  rw [List.mem_filter, List.mem_range]
  simp only [Bool.and_eq_true, beq_iff_eq]
  exact ⟨fun h => h.2, fun h => ⟨isK_lt h.1, h⟩⟩

/-- What only looks is done in its gap, or later. -/
theorem Stt.av_le (h : Stt P G N C L p A K s0 J0 w0 a0 S g vals s J cv a w) (ok : Ok P L p n) {j : Nat} (hj : S j) (he : isK .e L j = false) (ha : isK .a L j = false) : p.av.getD j 0 ≤ g := by
  rcases Nat.lt_or_ge g (p.av.getD j 0) with hlt | hle
  · have hjl := h.bnd j hj
    have hm := (ok.avm j hjl he).1
    have := ok.avl j hjl he ha g hlt S h.clo hj
    have := (h.pre g (by omega)).1 this
    omega
  · exact hle

theorem lastB_mono {q : Nat → Bool} {m : Nat} : lastB q (m + 1) = if q m then some m else lastB q m := rfl

theorem finD_spec (vals : Nat → Value) (A : Fr) (hN : ∀ i d, dstAt L i = some d → d < N) : ∀ m d, finD N L vals A m d = match lastB (fun j => dstAt L j == some d) m with
    | some j => vals j
    | none => A d := by
  intro m
  induction m with
  | zero => exact fun _ => rfl
  | succ m ih =>
    intro d
    rw [lastB_mono]
    simp only [finD]
    cases hm : dstAt L m with
    | none => simpa [putA] using ih d
    | some d' =>
      have hb : Nat.blt d' N = true := by simpa using hN m d' hm
      by_cases hdd : d' = d
      · subst hdd
        simp only [putA, hb, beq_self_eq_true, if_true]
        rw [setV_self]
      · have : (some d' == some d) = false := by simpa using hdd
        simp only [putA, hb, this, Bool.false_eq_true, if_false]
        rw [setV_other _ hdd]
        exact ih d

/-- All is done. -/
theorem Stt.done {n : Nat} (h : Stt P G N C L p A K s0 J0 w0 a0 S g vals s J cv a w) (ok : Ok P L p n) (hn : n = N) (hall : ∀ j, j < L.length → S j) :
    ∃ vals' s' J', K vals' s' ∧ Sim G s' J' w ∧ Step s0 J0 w0 s' J' w ∧ VRf N s'.next J' (finD N L vals' A L.length) a.tmps ∧ a.defers = [] := by
  have hg : g = p.es.length := by
    rcases Nat.lt_or_ge g p.es.length with hlt | hle
    · have := (h.pre g hlt).1 (hall _ (ok.es_lt hlt).1)
      omega
    · exact Nat.le_antisymm h.gle hle
  obtain ⟨vals', s', J', h1, R, h3⟩ := als_install (gapAls L p g) _ vals s J h.R h.nxt (fun i hi => by
    obtain ⟨h1, h2⟩ := mem_gapAls.1 hi
    exact ⟨hall i (isK_lt h1), ⟨h1, by omega⟩, isK_lt h1⟩) (List.Pairwise.filter _ List.nodup_range)
  have hd : p.es.drop g = [] := by rw [hg]; exact List.drop_length
  rw [hd] at h1
  refine ⟨vals', s', J', h1, R.sim, R.step, ?_, h.frm.defers⟩
  refine ⟨by rw [h.frm.sz, R.init.1], fun d => ?_⟩
  rw [finD_spec vals' A (fun i d hd => hn ▸ ok.dst i d hd)]
  split
  · rename_i j hj
    obtain ⟨h1, h2, h3⟩ := lastB_some hj
    have hjd : dstAt L j = some d := by simpa using h2
    have hda : d < a.tmps.size := by rw [h.frm.sz, R.init.1, ← hn]; exact ok.dst j d hjd
    rw [h.frm.w d j hda (hall j h1) hjd (fun k _ hkd => by
      rcases Nat.lt_or_ge j k with hjk | hjk
      · have := h3 k hjk (dstAt_lt hkd)
        simp [hkd] at this
      · exact hjk)]
    refine R.rel j (hall j h1) (fun hT => ?_)
    obtain ⟨⟨t1, t2⟩, t3⟩ := hT
    have := (ok.avm j h1 (isK_excl t1 (by simp))).1
    exact t3 (mem_gapAls.2 ⟨t1, by omega⟩)
  · rename_i hj
    have h3 := lastB_none hj
    rw [h.frm.o d (fun k hk hkd => by
      have := h3 k (dstAt_lt hkd)
      simp [hkd] at this)]
    exact R.init.2 d

theorem kindOf_a {o : Oper} (h : kindOf o = .a) : cls o.op = .a ∧ ∃ t, o.op = .alloc t := by
  unfold kindOf at h
  split at h
  · cases h
  · cases h
  · rename_i hc
    refine ⟨hc, ?_⟩
    split at h
    · rename_i t ht; exact ⟨t, ht⟩
    · cases h
  · cases h

theorem kindOf_pr {o : Oper} : (kindOf o = .p → cls o.op = .p) ∧ (kindOf o = .r → cls o.op = .r) := by
  unfold kindOf
  constructor <;> (intro h; split at h <;> first | assumption | cases h | (split at h <;> cases h))

/-- One operation, in whatever order. -/
theorem Stt.one (hF : Wide F) (hC : Sound P G C) (hG : 1000 ≤ G) {n : Nat} {ops : Array Oper} (hops : ops.toList = L) {Q : Exit → Act → World → Prop} (ok : Ok P L p n) (hn : n = N)
    (h : Stt P G N C L p A K s0 J0 w0 a0 S g vals s J cv a w) {i : Nat} {o : Oper} (ho : L[i]? = some o) (hni : ¬ S i) (hr : ∀ e ∈ o.after, Region.binds .any e = true → S e.on) :
    wpOpIn F 0 P ops Q i (fun a' w' => ∃ g' vals' s' J' cv', Stt P G N C L p A K s0 J0 w0 a0 (fun k => S k ∨ k = i) g' vals' s' J' cv' a' w') a w := by
  have hil := (List.getElem?_eq_some_iff.1 ho).1
  have hio : ops[i]? = some o := by rw [← ho, ← hops]; simp
  have hdi : dstAt L i = o.dst := by simp [dstAt, ho]
  have hcl' := h.clo.add ho hr
  have hb' : ∀ j, (S j ∨ j = i) → j < L.length := fun j hj => hj.elim (h.bnd j) (fun e => e ▸ hil)
  have hab := about_wide (P := P) (w := w) hF o a
  unfold wpOpIn
  simp only [hio]
  have run : ∀ {v' : Value} {w1 : World} {Kk : Act → World → Prop}, (∀ c, o.op ≠ .defer c) → (execOp a.eval o).run P w = .ok (.value v') w1 → Kk (a.put o.dst v') w1 → o.wpIn F 0 P a w Kk Q := by
    intro v' w1 Kk hnd hrun hk
    refine ⟨hab, ?_⟩
    rw [Oper.semAt_eq _ _ _ hnd, hrun]
    exact hk
  by_cases hie : isK .e L i = true
  · -- a change
    obtain ⟨k, hk, hki⟩ := ok.es_mem hie
    have hkg : k = g := by
      rcases Nat.lt_trichotomy k g with hlt | heq | hgt
      · have := (h.pre k hk).2 hlt
        rw [hki] at this
        exact absurd this hni
      · exact heq
      · have := ok.ord k g hk hgt
        rw [hki] at this
        have := this.now h.clo ho hr (fun e => by
          have := ok.es_inj (by omega) hk (e.trans hki.symm); omega)
        have := (h.pre g (by omega)).1 this
        omega
    subst hkg
    obtain ⟨vals1, s1, J1, hnx, R1, hv1⟩ := als_install (gapAls L p k) _ vals s J h.R h.nxt (fun j hj => by
      obtain ⟨ha, hav⟩ := mem_gapAls.1 hj
      have hjl := isK_lt ha
      refine ⟨?_, ⟨ha, by omega⟩, hjl⟩
      have h1 := (ok.avm j hjl (isK_excl ha (by simp))).2.2
      rw [← ok.ava j hjl ha, hav] at h1
      rcases h1 with h1 | h1
      · omega
      · rw [hki] at h1
        exact h1.now h.clo ho hr (fun e => by subst e; rw [isK_excl ha (by simp)] at hie; cases hie)) (List.Pairwise.filter _ List.nodup_range)
    have hdrop : p.es.drop k = i :: p.es.drop (k + 1) := by
      rw [List.drop_eq_getElem_cons hk]
      congr 1
      rw [← hki, List.getD_eq_getElem?_getD, List.getElem?_eq_getElem hk]
      rfl
    rw [hdrop] at hnx
    simp only [nextD, ho] at hnx
    have hT1 : ∀ j, isK .a L j = false → ¬ (Late L p k j ∧ j ∉ gapAls L p k) := fun j hj t => by rw [t.1.1] at hj; cases hj
    have hTs : ∀ j ∈ srcs L i, ¬ (Late L p k j ∧ j ∉ gapAls L p k) := by
      intro j hj t
      have := ok.ese k hk j (by rw [hki]; exact hj)
      split at this
      · rename_i hje
        exact hT1 j (isK_excl hje (by simp)) t
      · exact t.2 (mem_gapAls.2 ⟨t.1.1, by have := t.1.2; omega⟩)
    -- and then the next gap
    have fin : ∀ (v v' : Value) (s2 : St) (J2 : Nat → Plc) (w2 : World), evGaps P C L p A K (p.es.drop (k + 1)) (k + 1) (setV vals1 i v) s2 → VR s2.next J2 false v v' → Sim G s2 J2 w2 → Step s1 J1 w s2 J2 w2 →
        ∃ g' vals' s' J' cv', Stt P G N C L p A K s0 J0 w0 a0 (fun k => S k ∨ k = i) g' vals' s' J' cv' (a.put o.dst v') w2 := by
      intro v v' s2 J2 w2 hev hv hS2 hst
      have h0 : Abs0 P L p A (k + 1) (setV vals1 i v) := h.abs.congr ok (fun j hja hje => by
        have hj : j ∉ gapAls L p k := fun hj => by rw [(mem_gapAls.1 hj).1] at hja; cases hja
        by_cases hji : i = j
        · exfalso
          obtain ⟨i', hi', he', ha', hav, hm⟩ := hje (hji ▸ hie)
          obtain ⟨l, hl, hle⟩ := List.mem_iff_getElem.1 hm
          rw [List.getElem_take] at hle
          have hl' : l < p.av.getD i' 0 ∧ l < p.es.length := by rw [List.length_take] at hl; omega
          have : p.es.getD l 0 = p.es.getD k 0 := by rw [hki, hji, ← hle, List.getD_eq_getElem?_getD, List.getElem?_eq_getElem hl'.2]; rfl
          have := ok.es_inj hl'.2 hk this
          omega
        · rw [setV_other _ hji]
          exact hv1 j hj)
      obtain ⟨vals2, e2, e3, e4, e5⟩ := enter ok h0 hev
      have hv2 : ∀ j, S j → vals2 j = vals1 j := by
        intro j hj
        have hji : i ≠ j := fun e => hni (e ▸ hj)
        rw [e5 j (fun hc => ?_), setV_other _ hji]
        have he : isK .e L j = false := hc.1.elim (fun h => isK_excl h (by simp)) (fun h => isK_excl h (by simp))
        have ha : isK .a L j = false := hc.1.elim (fun h => isK_excl h (by simp)) (fun h => isK_excl h (by simp))
        have := h.av_le ok hj he ha
        omega
      have hvi : vals2 i = v := by
        rw [e5 i (fun hc => ?_), setV_self]
        rcases hc.1 with hc | hc
        · rw [isK_excl hc (by simp)] at hie; cases hie
        · rw [isK_excl hc (by simp)] at hie; cases hie
      have hia : isK .a L i = false := isK_excl hie (by simp)
      have toT1 : ∀ j, Late L p (k + 1) j → Late L p k j ∧ j ∉ gapAls L p k := fun j t => ⟨⟨t.1, by have := t.2; omega⟩, fun hm => by have := (mem_gapAls.1 hm).2; have := t.2; omega⟩
      refine ⟨k + 1, vals2, s2, J2, upd cv i v', by omega, hb', hcl', ⟨hS2, R1.step.trans hst, R1.init.mono hst.le hst.ext, ?_, ?_, ?_⟩, h.frm.put ok h.clo h.bnd ho hni v', ?_, e3, e4, e2⟩
      · intro j hj ht
        by_cases hji : j = i
        · subst hji
          rw [hvi]
          simpa [upd] using hv
        · have hSj := hj.resolve_right hji
          rw [hv2 j hSj]
          simp only [upd, if_neg hji]
          refine (R1.rel j hSj (fun t => ht ⟨t.1.1, ?_⟩)).mono hst.le hst.ext
          rcases Nat.lt_or_ge k (p.av.getD j 0) with h' | h'
          · omega
          · exact absurd (mem_gapAls.2 ⟨t.1.1, by have := t.1.2; omega⟩) t.2
      · intro j hj ht
        have hji : j ≠ i := fun e => by subst e; rw [ht.1] at hia; cases hia
        have hSj := hj.resolve_right hji
        simp only [upd, if_neg hji]
        exact (R1.recs j hSj (toT1 j ht)).step hst
      · intro j l hjl hj hl tj tl
        have hji : j ≠ i := fun e => by subst e; rw [tj.1] at hia; cases hia
        have hli : l ≠ i := fun e => by subst e; rw [tl.1] at hia; cases hia
        simp only [upd, if_neg hji, if_neg hli]
        exact R1.sep j l hjl (hj.resolve_right hji) (hl.resolve_right hli) (toT1 j tj) (toT1 l tl)
      · intro l hl
        constructor
        · rintro (hs | hs)
          · have := (h.pre l hl).1 hs; omega
          · have := ok.es_inj hl hk (hs.trans hki.symm); omega
        · intro hlt
          by_cases hlk : l = k
          · subst hlk; exact .inr hki
          · exact .inl ((h.pre l hl).2 (by omega))
    rw [stepW_eq (fun e => by rw [e]; rfl)] at hnx
    unfold gW at hnx
    split at hnx
    · rename_i hw
      rw [R1.guard ok hops hn h.frm h.clo ho hr hT1 hw]
      simp only [if_true]
      refine Oper.wpIn_mono ?_ (op_core hF hC R1.sim (fun x => R1.opd ok hG hn h.frm h.clo h.bnd ho hni hr hTs x) hnx)
      rintro a' w' ⟨v', rfl, v, s2, J2, hk2, hv, hS2, hst⟩
      exact fin v v' s2 J2 w' hk2 hv hS2 hst
    · rename_i hw
      rw [R1.guard ok hops hn h.frm h.clo ho hr hT1 hw]
      simp only [Bool.false_eq_true, if_false]
      exact ⟨hab, fin (.chan none) undef s1 J1 w hnx .skip R1.sim (.refl _ _ _)⟩
    · exact hnx.elim
  · have hie : isK .e L i = false := by simpa using hie
    have hpre : ∀ k, k < p.es.length → ((S (p.es.getD k 0) ∨ p.es.getD k 0 = i) ↔ k < g) := fun k hk => by
      rw [← h.pre k hk]
      refine ⟨fun hs => hs.resolve_right (fun e => ?_), .inl⟩
      have := (ok.es_lt hk).2
      rw [e, hie] at this; cases this
    by_cases hia : isK .a L i = true
    · -- a block of zeros
      have hka : kindOf o = .a := by rw [isK_kind ho] at hia; simpa using hia
      obtain ⟨hca, t, hop⟩ := kindOf_a hka
      have hgn : o.guard = none := by
        cases hg : o.guard with
        | none => rfl
        | some jb => obtain ⟨j, b⟩ := jb; rw [(ok.grd i o j b ho hg).2.2.1] at hia; cases hia
      obtain ⟨⟨x, nk⟩, hx⟩ := Option.isSome_iff_exists.1 (ok.made i o ho hka)
      have hnk : nk = .ptr := by
        rw [hop] at hx
        simp only [newA, zeroN] at hx
        cases hz : tZero P t with
        | none => rw [hz] at hx; cases hx
        | some z => rw [hz] at hx; cases hx; rfl
      subst hnk
      obtain ⟨_, ob, hR, hrun⟩ := new_sim (n := s.next) (J := J) (ρ' := a.eval) hca (fun _ => .dc) hx
      have hgav : g ≤ p.av.getD i 0 := by
        rcases Nat.lt_or_ge (p.av.getD i 0) g with hlt | hle
        · have h1 := (ok.avm i hil hie).2.2
          rw [← ok.ava i hil hia] at h1
          have hle := h.gle
          rcases h1 with h1 | h1
          · omega
          · exact absurd (h1 S h.clo ((h.pre _ (by omega)).2 hlt)) hni
        · exact hle
      have hw : Region.wanted o (yielded ops a.tmps) = true := by simp [Region.wanted, hgn]
      rw [hw]
      simp only [if_true]
      refine run (fun c he => by rw [hop] at he; cases he) (hrun w) ⟨g, vals, s, J, upd cv i (NewV.val .ptr w.heap.size), h.gle, hb', hcl',
        ⟨h.R.sim.holds (holds_alloc w ob), h.R.step.alloc ob, h.R.init, ?_, ?_, ?_⟩, h.frm.put ok h.clo h.bnd ho hni _, hpre, h.abs, h.rds, h.nxt⟩
      · intro j hj ht
        by_cases hji : j = i
        · subst hji; exact absurd ⟨hia, hgav⟩ ht
        · simp only [upd, if_neg hji]
          exact h.R.rel j (hj.resolve_right hji) ht
      · intro j hj ht
        by_cases hji : j = i
        · subst hji
          simp only [upd, if_true]
          refine ⟨o, x, ob, w.heap.size, ho, hx, rfl, by show (w.heap.push _)[w.heap.size]? = _; exact Array.getElem?_push_size, hR, ?_, h.R.step.size⟩
          rintro k ⟨b, y, hy, hoy⟩
          have := (h.R.sim.obj b y hy).lt
          rw [hoy.cb] at this
          omega
        · simp only [upd, if_neg hji]
          obtain ⟨o', x', ob', blk', r1, r2, r3, r4, r5, r6, r7⟩ := h.R.recs j (hj.resolve_right hji) ht
          exact ⟨o', x', ob', blk', r1, r2, r3, (holds_alloc w ob).at r4, r5, r6, r7⟩
      · intro j l hjl hj hl tj tl
        have key : ∀ q, S q → Late L p g q → cv q ≠ NewV.val .ptr w.heap.size := by
          intro q hq tq he
          obtain ⟨o', x', ob', blk', r1, r2, r3, r4, r5, r6, r7⟩ := h.R.recs q hq tq
          rw [r3] at he
          simp only [NewV.val, Value.pointer.injEq, Option.some.injEq, Addr.mk.injEq, and_true] at he
          have := (Array.getElem?_eq_some_iff.1 r4).1
          omega
        by_cases hji : j = i
        · subst hji
          have hlj : l ≠ j := fun e => hjl e.symm
          simp only [upd, if_true, if_neg hlj]
          exact fun e => key l (hl.resolve_right hlj) tl e.symm
        · by_cases hli : l = i
          · subst hli
            simp only [upd, if_true, if_neg hji]
            exact key j (hj.resolve_right hji) tj
          · simp only [upd, if_neg hji, if_neg hli]
            exact h.R.sep j l hjl (hj.resolve_right hji) (hl.resolve_right hli) tj tl
    · -- what only looks
      have hia : isK .a L i = false := by simpa using hia
      have hav : p.av.getD i 0 ≤ g := by
        rcases Nat.lt_or_ge g (p.av.getD i 0) with hlt | hle
        · have hm := (ok.avm i hil hie).1
          have h1 := (ok.avl i hil hie hia g hlt).now h.clo ho hr (fun e => by
            have := (ok.es_lt (k := g) (by omega)).2
            rw [e, hie] at this; cases this)
          have := (h.pre g (by omega)).1 h1
          omega
        · exact hle
      have hhi : g ≤ p.hi.getD i 0 := by
        rcases Nat.lt_or_ge (p.hi.getD i 0) g with hlt | hle
        · have h1 := (ok.avm i hil hie).2.2
          have hle := h.gle
          rcases h1 with h1 | h1
          · omega
          · exact absurd (h1 S h.clo ((h.pre _ (by omega)).2 hlt)) hni
        · exact hle
      have hT : ∀ j, isK .a L j = false → ¬ Late L p g j := fun j hj t => by rw [t.1] at hj; cases hj
      have hTs : ∀ j ∈ srcs L i, ¬ Late L p g j := by
        intro j hj
        have := ok.avs i hil hie hia j hj
        split at this
        · rename_i hje; exact hT j (isK_excl hje (by simp))
        · exact hT j this.1
      have fin : ∀ v', VR s.next J false (vals i) v' → ∃ g' vals' s' J' cv', Stt P G N C L p A K s0 J0 w0 a0 (fun k => S k ∨ k = i) g' vals' s' J' cv' (a.put o.dst v') w := by
        intro v' hv
        refine ⟨g, vals, s, J, upd cv i v', h.gle, hb', hcl', ⟨h.R.sim, h.R.step, h.R.init, ?_, ?_, ?_⟩, h.frm.put ok h.clo h.bnd ho hni _, hpre, h.abs, h.rds, h.nxt⟩
        · intro j hj ht
          by_cases hji : j = i
          · subst hji; simpa [upd] using hv
          · simp only [upd, if_neg hji]
            exact h.R.rel j (hj.resolve_right hji) ht
        · intro j hj ht
          have hji : j ≠ i := fun e => by subst e; exact hT j hia ht
          simp only [upd, if_neg hji]
          exact h.R.recs j (hj.resolve_right hji) ht
        · intro j l hjl hj hl tj tl
          have hji : j ≠ i := fun e => by subst e; exact hT j hia tj
          have hli : l ≠ i := fun e => by subst e; exact hT l hia tl
          simp only [upd, if_neg hji, if_neg hli]
          exact h.R.sep j l hjl (hj.resolve_right hji) (hl.resolve_right hli) tj tl
      obtain ⟨hw0, hwf⟩ := h.abs.f i hil hie hia (by omega) o ho
      have hdt : DetT P L A vals s i := by
        rcases isK_pr hil hie hia with hp | hp
        · exact h.abs.t i hp (by omega) s
        · exact h.rds i hp hav hhi
      cases hw : wantedD vals o.guard with
      | none => exact absurd hw hw0
      | some c =>
        rw [h.R.guard ok hops hn h.frm h.clo ho hr hT hw]
        cases c with
        | false =>
          simp only [Bool.false_eq_true, if_false]
          exact ⟨hab, fin undef (by rw [hwf hw]; exact .skip)⟩
        | true =>
          simp only [if_true]
          have hv := hdt o ho hw
          have hρ : ∀ x, VR s.next J false (opdD L vals A i x) (a.eval x) := fun x => h.R.opd ok hG hn h.frm h.clo h.bnd ho hni hr hTs x
          rcases isK_pr hil hie hia with hp | hp
          · rw [isK_kind ho] at hp
            have hk : kindOf o = .p := by simpa using hp
            simp only [valD, hk] at hv
            have hc := kindOf_pr.1 hk
            obtain ⟨v', h1, h2⟩ := pure_sim hc hρ hv
            exact run (fun c he => by rw [he] at hc; simp [cls] at hc) (h2 w) (fin v' h1)
          · rw [isK_kind ho] at hp
            have hk : kindOf o = .r := by simpa using hp
            simp only [valD, hk] at hv
            have hc := kindOf_pr.2 hk
            obtain ⟨v', h1, h2⟩ := read_sim h.R.sim hc hρ hv
            exact run (fun c he => by rw [he] at hc; simp [cls] at hc) (h2 w (.refl w)) (fin v' h1)

end

end Go.Zz
