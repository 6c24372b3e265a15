/- Slice expressions; all operations that read, in one theorem. -/
import Derived.Test.YtcjoihkdaoflfaaGreatG
set_option linter.all false
namespace Go.Zz
open Go

variable {P : Program} {G : Nat} {s : St} {J : Nat → Plc} {w : World}

def VRo (n : Nat) (J : Nat → Plc) : Option Value → Option Value → Prop
  | none, none => True
  | some x, some y => VR n J false x y
  | _, _ => False

def Bd (v : Option Value) (d r : Nat) : Prop := match v with
  | none => r = d
  | some u => ∃ k i, u = .int k i ∧ 0 ≤ i ∧ r = i.toNat

theorem bound_bd {n : Nat} {v v' : Option Value} {d : Option Nat} {r : Nat} (h : bound? v d = some r) (hv : VRo n J v v') (hd : v = none → ∃ d0, d = some d0) : Bd v' (d.getD 0) r := by
  cases v with
  | none =>
    cases v' with
    | none => obtain ⟨d0, rfl⟩ := hd rfl; simp [bound?] at h; exact h.symm
    | some y => exact hv.elim
  | some x =>
    cases v' with
    | none => exact hv.elim
    | some y =>
      simp only [bound?] at h
      cases x <;> simp [intOf?] at h
      cases (show VR n J false _ _ from hv).int_inv
      exact ⟨_, _, rfl, h.1, h.2.symm⟩

theorem bd_isSome {n : Nat} {v v' : Option Value} (hv : VRo n J v v') : v'.isSome = v.isSome := by
  cases v <;> cases v' <;> first | rfl | exact hv.elim

theorem run_sliceBound {k : IntKind} {i : Int} {y : Nat} (h0 : 0 ≤ i) (h1 : i.toNat ≤ y) (code : BoundsCode) (w : World) : (Instr.sliceBound (.int k i) y code).run P w = .ok i.toNat w := by
  have : 0 ≤ i ∧ i ≤ (y : Int) := by omega
  simp [Instr.sliceBound, asIntOf, this]

theorem run_sliceBounds {isSlice : Bool} {len cap : Nat} {lo hi mx : Option Value} {l h m : Nat} (hl : Bd lo 0 l) (hh : Bd hi len h) (hm : Bd mx cap m) (hs : mx.isSome → hi.isSome)
    (h1 : l ≤ h) (h2 : h ≤ m) (h3 : m ≤ cap) (w : World) : (Instr.sliceBounds isSlice len cap lo hi mx).run P w = .ok (l, h, m) w := by
  have last : (lo = none ∧ l = 0) ∨ ∃ k i, lo = some (.int k i) ∧ 0 ≤ i ∧ l = i.toNat := by
    cases lo with
    | none => exact .inl ⟨rfl, hl⟩
    | some u => obtain ⟨k, i, rfl, h0, rfl⟩ := hl; exact .inr ⟨_, _, rfl, h0, rfl⟩
  clear hl
  cases mx with
  | none =>
    have hm' : m = cap := hm
    subst hm'
    cases hi with
    | none =>
      have hh' : h = len := hh
      subst hh'
      rcases last with ⟨rfl, rfl⟩ | ⟨k', i', rfl, g0, rfl⟩
      · simp [Instr.sliceBounds]
      · simp [Instr.sliceBounds, run_sliceBound g0 h1]
    | some uh =>
      obtain ⟨k, i, rfl, h0, rfl⟩ := hh
      rcases last with ⟨rfl, rfl⟩ | ⟨k', i', rfl, g0, rfl⟩
      · simp [Instr.sliceBounds, run_sliceBound h0 h2]
      · simp [Instr.sliceBounds, run_sliceBound h0 h2, run_sliceBound g0 h1]
  | some um =>
    obtain ⟨k0, i0, rfl, hi0, rfl⟩ := hm
    cases hi with
    | none => simp at hs
    | some uh =>
      obtain ⟨k, i, rfl, h0, rfl⟩ := hh
      rcases last with ⟨rfl, rfl⟩ | ⟨k', i', rfl, g0, rfl⟩
      · simp [Instr.sliceBounds, run_sliceBound hi0 h3, run_sliceBound h0 h2]
      · simp [Instr.sliceBounds, run_sliceBound hi0 h3, run_sliceBound h0 h2, run_sliceBound g0 h1]

theorem run_sliceAt_slice {t e : TypeId} {i : TypeInfo} (hu : P.underlying t = some (.slice e)) (hi : P.info? e = some i) (a : Option Addr) (n c : Nat) {lo hi' mx : Option Value} {l h m : Nat}
    (hb : ∀ w, (Instr.sliceBounds true n c lo hi' mx).run P w = .ok (l, h, m) w) (w : World) :
    (Instr.sliceAt t (.slice a n c) lo hi' mx).run P w = .ok (.slice (if m = l then a else a.map (·.add (l * i.size))) (h - l) (m - l)) w := by
  simp [Instr.sliceAt, Instr.slice, run_underlying hu, hb, run_sizeOf hi]

theorem slcV_run (hS : Sim G s J w) {t : TypeId} {x x' v : Value} {lo hi mx lo' hi' mx' : Option Value} (h : slcV P t x lo hi mx s = some v) (hx : VR s.next J false x x')
    (hlo : VRo s.next J lo lo') (hhi : VRo s.next J hi hi') (hmx : VRo s.next J mx mx') :
    ∃ v', VR s.next J false v v' ∧ ∀ w2, (Instr.sliceAt t x' lo' hi' mx').run P w2 = .ok v' w2 := by
  unfold slcV at h
  split at h
  · -- a string
    rename_i b hu
    cases hx.string_inv
    split at h
    · rename_i l hh h1 h2
      split at h
      · rename_i hc
        cases h
        have b1 := bound_bd h1 hlo (fun _ => ⟨_, rfl⟩)
        have b2 := bound_bd h2 hhi (fun _ => ⟨_, rfl⟩)
        cases mx' with
        | some y => exact hmx.elim
        | none =>
          refine ⟨_, .one (.string _), fun w2 => ?_⟩
          have hb := run_sliceBounds (P := P) (isSlice := false) (len := b.size) (cap := b.size) (mx := none) (m := b.size) b1 b2 rfl (by simp) hc.1 hc.2 (Nat.le_refl _) w2
          simp [Instr.sliceAt, Instr.slice, run_underlying hu, hb]
      · cases h
    · cases h
  · -- an array's address
    rename_i n e a hu
    obtain ⟨hb, hs, rfl⟩ := hx.ptr_inv
    split at h
    · rename_i z l hh m hz h1 h2 h3
      obtain ⟨i, hi0, hsz⟩ := tSize_some hz
      split at h
      · rename_i hc
        cases h
        have b1 := bound_bd h1 hlo (fun _ => ⟨_, rfl⟩)
        have b2 := bound_bd h2 hhi (fun _ => ⟨_, rfl⟩)
        have b3 := bound_bd h3 hmx (fun _ => ⟨_, rfl⟩)
        have hb' := fun w2 => run_sliceBounds (P := P) (isSlice := false) (len := n) (cap := n) b1 b2 b3 (by rw [bd_isSome hmx, bd_isSome hhi]; exact hc.1) hc.2.1 hc.2.2.1 hc.2.2.2.1 w2
        refine ⟨.slice (some (if m = l then tr (J a.block) a else (tr (J a.block) a).add (l * i.size))) (hh - l) (m - l), .one (.slice hb rfl (by omega) (by omega) ?_ (.inl rfl)), fun w2 => ?_⟩
        · by_cases e : m = l
          · left; omega
          · right; rw [if_neg e, tr_add, hsz]
        · simp [Instr.sliceAt, run_underlying hu, Instr.sureAddr, hb', run_sizeOf hi0]
      · cases h
    · cases h
  · -- nil
    rename_i e hu
    obtain ⟨_, _, rfl⟩ := hx.nilSlice_inv
    split at h
    · rename_i h1 h2 h3
      split at h
      · rename_i hc
        cases h
        obtain ⟨z, hz⟩ := Option.isSome_iff_exists.1 hc.1
        obtain ⟨i, hi0, hsz⟩ := tSize_some hz
        have b1 := bound_bd h1 hlo (fun _ => ⟨_, rfl⟩)
        have b2 := bound_bd h2 hhi (fun _ => ⟨_, rfl⟩)
        have b3 := bound_bd h3 hmx (fun _ => ⟨_, rfl⟩)
        have hb' := fun w2 => run_sliceBounds (P := P) (isSlice := true) (len := 0) (cap := 0) b1 b2 b3 (by rw [bd_isSome hmx, bd_isSome hhi]; exact hc.2) (Nat.le_refl _) (Nat.le_refl _) (Nat.le_refl _) w2
        refine ⟨_, .one .nilSlice, fun w2 => ?_⟩
        rw [run_sliceAt_slice hu hi0 none 0 0 hb']
        simp
      · cases h
    · cases h
  · -- a slice
    rename_i e a n c hu
    obtain ⟨a', c', rfl, hb, hs, hl, hc', ha, hcap⟩ := hx.slice_inv
    split at h
    · rename_i z l hh hz h1 h2
      obtain ⟨i, hi0, hsz⟩ := tSize_some hz
      have b1 := bound_bd h1 hlo (fun _ => ⟨_, rfl⟩)
      have b2 := bound_bd h2 hhi (fun _ => ⟨_, rfl⟩)
      have fin : ∀ (m q : Nat) (mx0 : Option Value), mx' = mx0 → Bd mx0 c' m → (mx0.isSome → hi'.isSome) → l ≤ hh → hh ≤ m → m ≤ c' → (m - l = q ∨ (q = top + (J a.block).w ∧ 0 < (J a.block).w ∧ z = (J a.block).w ∧ m = c' ∧ a.off + c' * z = (J a.block).ext)) →
          ∃ v', VR s.next J false (.slice (some ⟨a.block, a.off + l * z, none⟩) (hh - l) q) v' ∧ ∀ w2, (Instr.sliceAt t (.slice (some a') n c') lo' hi' mx').run P w2 = .ok v' w2 := by
        rintro m q mx0 rfl b3 hsome g1 g2 g3 hq
        have hb' := fun w2 => run_sliceBounds (P := P) (isSlice := true) (len := n) (cap := c') b1 b2 b3 hsome g1 g2 g3 w2
        refine ⟨.slice (some (if m = l then a' else a'.add (l * i.size))) (hh - l) (m - l), .one (.slice hb rfl (by omega) (by omega) ?_ ?_), fun w2 => ?_⟩
        · by_cases e : m = l
          · left; omega
          · right
            rcases ha with h0 | h0
            · omega
            · rw [if_neg e, h0, tr_add, hsz]
        · rcases hq with hq | ⟨q1, q2, q3, q4, q5⟩
          · exact .inl hq.symm
          · refine .inr ⟨q1, q2, ?_⟩
            show a.off + l * z + (m - l) * (J a.block).w = (J a.block).ext
            rw [← q3, ← q5, q4]
            have : c' * z = l * z + (c' - l) * z := by rw [← Nat.add_mul]; congr 1; omega
            omega
        · rw [run_sliceAt_slice hu hi0 (some a') n c' hb']
          by_cases e : m = l <;> simp [e]
      split at h
      · rename_i hct
        -- to the row's end
        have hw : z = (J a.block).w ∧ 0 < (J a.block).w ∧ a.off + c' * (J a.block).w = (J a.block).ext := by
          rcases hcap with h0 | ⟨h0, h3, h4⟩
          · exfalso; unfold top at hct; omega
          · exact ⟨by unfold top at *; omega, h3, h4⟩
        obtain ⟨hw1, hw2, hw3⟩ := hw
        split at h
        · rename_i hmx0
          rw [Option.ite_none_right_eq_some] at h
          obtain ⟨hcond, h⟩ := h
          · cases h
            cases mx' with
            | some y => exact hmx.elim
            | none =>
              have hle : hh ≤ c' := by
                rcases hcond.2 with h0 | h0
                · omega
                · split at h0
                  · rename_i vs tail hrow
                    simp only [decide_eq_true_eq] at h0
                    have hR := hS.obj _ _ hrow
                    have hx := hR.1
                    have h5 : a.off + hh * z ≤ a.off + c' * z := by rw [hw1] at h0 ⊢; omega
                    exact Nat.le_of_mul_le_mul_right (by omega : hh * z ≤ c' * z) (by omega)
                  · cases h0
              exact fin c' c none rfl rfl (by simp) hcond.1 hle (Nat.le_refl _) (.inr ⟨by unfold top at *; omega, hw2, hw1, rfl, by rw [hw1]; exact hw3⟩)
        · rename_i mv hmx0
          split at h
          · rename_i m h3
            split at h
            · rename_i hcond
              cases h
              have b3 := bound_bd h3 hmx (fun e => by cases e)
              cases mx' with
              | none => exact hmx.elim
              | some y => exact fin m (m - l) (some y) rfl b3 (fun _ => by rw [bd_isSome hhi]; exact hcond.1) hcond.2.1 hcond.2.2.1 (by omega) (.inl rfl)
            · cases h
          · cases h
      · split at h
        · rename_i hct
          have hcc : c = c' := by
            rcases hcap with h0 | ⟨h0, _⟩
            · exact h0
            · exfalso; unfold top at *; omega
          subst hcc
          split at h
          · rename_i m h3
            split at h
            · rename_i hcond
              cases h
              have b3 := bound_bd h3 hmx (fun _ => ⟨_, rfl⟩)
              exact fin m (m - l) mx' rfl b3 (by rw [bd_isSome hmx, bd_isSome hhi]; exact hcond.1) hcond.2.1 hcond.2.2.1 hcond.2.2.2 (.inl rfl)
            · cases h
          · cases h
        · cases h
    · cases h
  · cases h

theorem VRo_map {n : Nat} {ρ ρ' : Operand → Value} (hρ : ∀ x, VR n J false (ρ x) (ρ' x)) (o : Option Operand) : VRo n J (o.map ρ) (o.map ρ') := by
  cases o with
  | none => trivial
  | some x => exact hρ x

/-- ALL OPERATIONS THAT READ. -/
theorem read_sim (hS : Sim G s J w) {o : Oper} {ρ ρ' : Operand → Value} {v : Value} (hc : cls o.op = .r) (hρ : ∀ x, VR s.next J false (ρ x) (ρ' x)) (h : readV P o.op ρ s = some v) :
    ∃ v', VR s.next J false v v' ∧ ∀ w2, Holds w w2 → (execOp ρ' o).run P w2 = .ok (.value v') w2 := by
  obtain ⟨dst, op, type, pos, after, guard⟩ := o
  have lift : ∀ {x : Sem Value} {v' : Value}, (∀ w2, Holds w w2 → x.run P w2 = .ok v' w2) → ∀ w2, Holds w w2 → (do pure (Next.value (← x)) : Sem Next).run P w2 = .ok (.value v') w2 := fun hx w2 hw => by simp [hx w2 hw]
  cases op <;> simp only [cls] at hc <;> simp only [readV] at h <;> simp only [execOp]
  case load t a => obtain ⟨v', h1, h2⟩ := loadV_run hS h (hρ a); exact ⟨v', h1, lift h2⟩
  case lookup t x i ok => obtain ⟨v', h1, h2⟩ := lookV_run hS h (hρ x) (hρ i); exact ⟨v', h1, lift h2⟩
  case slice t x lo hi mx =>
    obtain ⟨v', h1, h2⟩ := slcV_run hS h (hρ x) (VRo_map hρ lo) (VRo_map hρ hi) (VRo_map hρ mx)
    exact ⟨v', h1, lift fun w2 _ => h2 w2⟩
  case call c =>
    split at h
    · rename_i x t hce ha ht
      obtain ⟨h1, h2⟩ := lenR_run hS h (hρ x) type
      refine ⟨v, h1, fun w2 hw => ?_⟩
      have ha' : c.args = #[x] := by rw [← Array.toList_inj]; simpa using ha
      have ht' : c.argTypes = #[t] := by rw [← Array.toList_inj]; simpa using ht
      simp [resolve, hce, invoke, builtin, ha', ht', h2 w2 hw]
    · cases h
  all_goals (cases hc)

end Go.Zz
