/- Operations that only reckon, one by one. -/
import Derived.Test.YtcjoihkdaoflfaaGreatD
import Derived.Laws.Pointers
import Derived.Laws.StructEq
set_option linter.all false
namespace Go.Zz
open Go

variable {P : Program} {n : Nat} {J : Nat → Plc}

theorem intOp_run {op : BinOp} {k : IntKind} {a b : Int} {v : Value} (h : intOp op k a b = some v) (h1 : op ≠ .shl) (h2 : op ≠ .shr) (t : TypeId) (w : World) :
    (binOp op t (.int k a) (.int k b)).run P w = .ok v w ∧ ∃ u, v = .int k u ∨ ∃ c, v = .bool c := by
  cases op <;> simp [intOp] at h <;> first
    | (exact absurd rfl h1)
    | (exact absurd rfl h2)
    | (subst h; simp [Op.intArith, binOp]; done)
    | (subst h; simp [Op.intCmp, binOp]; done)
    | (obtain ⟨hb, rfl⟩ := h; simp [Op.intDiv, hb, binOp]; done)
    | (subst h; rw [binOp_and, intBits_and]; simp; done)
    | (subst h; rw [binOp_or, intBits_or]; simp; done)
    | (subst h; rw [binOp_xor, intBits_xor]; simp; done)
    | (subst h; rw [binOp_andNot, intBits_andNot]; simp; done)

theorem shiftOp_run {op : BinOp} {k k' : IntKind} {a b : Int} {v : Value} (h : shiftOp op k a b = some v) (t : TypeId) (w : World) :
    (binOp op t (.int k a) (.int k' b)).run P w = .ok v w ∧ ∃ u, v = .int k u := by
  unfold shiftOp at h
  split at h
  · cases h
  · rename_i hb
    cases op <;> simp at h <;> subst h
    · simp [binOp, Op.shift, hb]
    · simp [binOp, Op.shift, hb]

theorem eq_of {t : TypeId} {x y : Value} {w : World} {r : Result Bool} (h : ∀ d, (Op.equalIn (d + 1) t x y).run P w = r) : (Op.equal t x y).run P w = r := h 9999

theorem eqOp_run {op : BinOp} {b : Bool} {v : Value} (h : eqOp op b = some v) {t : TypeId} {x y : Value} {w : World} (he : (Op.equal t x y).run P w = .ok b w)
    (hx : binOp .eql t x y = (do pure (.bool (← Op.equal t x y))) ∧ binOp .neq t x y = (do pure (.bool (!(← Op.equal t x y))))) :
    (binOp op t x y).run P w = .ok v w ∧ ∃ c, v = .bool c := by
  cases op <;> simp [eqOp] at h <;> subst h
  · rw [hx.1]; simp [he]
  · rw [hx.2]; simp [he]

theorem strOp_run {op : BinOp} {a b : ByteArray} {v : Value} (h : strOp op a b = some v) (t : TypeId) (w : World) :
    (binOp op t (.string a) (.string b)).run P w = .ok v w ∧ ((∃ s, v = .string s) ∨ ∃ c, v = .bool c) := by
  cases op <;> simp [strOp] at h
  · obtain ⟨hb, rfl⟩ := h
    have : ¬ (9223372036854775807 < (a.size : Int) + (b.size : Int)) := by omega
    simp [binOp, Op.stringOp, this]
  all_goals (subst h; refine ⟨by simp [binOp, Op.stringOp], .inr ⟨_, rfl⟩⟩)

/-! ## The others -/

theorem pickV_run {c a b c' a' b' v : Value} (h : pickV c a b = some v) (hc : VR n J false c c') (ha : VR n J false a a') (hb : VR n J false b b') :
    ∃ v', VR n J false v v' ∧ ∀ w, (do pure (Next.value (if ← asBool c' then a' else b')) : Sem Next).run P w = .ok (.value v') w := by
  unfold pickV at h
  split at h
  · cases h; cases hc.bool_inv; exact ⟨a', ha, fun w => by simp [asBool]⟩
  · cases h; cases hc.bool_inv; exact ⟨b', hb, fun w => by simp [asBool]⟩
  · cases h

theorem unV_run {op : UnOp} {x x' v : Value} (h : unV op x = some v) (hx : VR n J false x x') : VR n J false v v ∧ ∀ w, (Op.unary op x').run P w = .ok v w := by
  unfold unV at h
  split at h <;> cases h
  · cases hx.int_inv; exact ⟨.one (.int _ _), fun w => by simp [Op.unary, Op.intArith]⟩
  · cases hx.int_inv; exact ⟨.one (.int _ _), fun w => by simp [Op.unary, intBits_xor]⟩
  · cases hx.bool_inv; exact ⟨.one (.bool _), fun w => by simp [Op.unary]⟩

theorem nilV_run {x x' v : Value} (h : nilV x = some v) (hx : VR n J false x x') : VR n J false v x' ∧ ((∃ a, x' = .pointer (some a)) ∨ (∃ f a b, x' = .func (.func f) a b) ∨ ∃ t u, x' = .iface t u) := by
  unfold nilV at h
  split at h <;> cases h
  · exact ⟨hx, .inl ⟨_, hx.ptr_inv.2.2⟩⟩
  · obtain ⟨g, cs, _, _, e, _⟩ := hx.func_inv; exact ⟨hx, .inr (.inl ⟨_, _, _, e⟩)⟩
  · obtain ⟨u, e, _⟩ := hx.iface_inv; exact ⟨hx, .inr (.inr ⟨_, _, e⟩)⟩

theorem tAgg_some {t : TypeId} {ag : Bool} {m : Nat} (h : tAgg P t = some (ag, m)) :
    ∃ i, P.info? t = some i ∧ i.size = m ∧ ∀ w, (isAgg t).run P w = .ok ag w := by
  unfold tAgg at h
  split at h
  · rename_i hu hi; cases h; exact ⟨_, hi, rfl, fun w => by simp [isAgg, run_underlying hu]⟩
  · rename_i hu hi; cases h; exact ⟨_, hi, rfl, fun w => by simp [isAgg, run_underlying hu]⟩
  · rename_i d i h1 h2 hu hi
    cases h
    refine ⟨_, hi, rfl, fun w => ?_⟩
    simp only [isAgg, Sem.run_bind, run_underlying hu, Result.andThen_ok]
    rfl
  · cases h

theorem run_sizeOf {t : TypeId} {i : TypeInfo} (h : P.info? t = some i) (w : World) : (sizeOf t).run P w = .ok i.size w := by simp [sizeOf, typeInfo, h]

theorem tField_some {t : TypeId} {f off : Nat} {ag : Bool} {m : Nat} (h : tField P t f = some (off, ag, m)) :
    ∃ fs fd, P.underlying t = some (.struct fs) ∧ fs[f]? = some fd ∧ fd.offset = off ∧ tAgg P fd.type = some (ag, m) ∧ m ≠ 0 := by
  unfold tField at h
  split at h
  · rename_i fs hu
    split at h
    · rename_i fd hf
      split at h
      · rename_i ag' m' ha
        split at h
        · cases h
        · rename_i hm; cases h; exact ⟨fs, fd, hu, hf, rfl, ha, hm⟩
      · cases h
    · cases h
  · cases h

theorem tr_add (m : Plc) (a : Addr) (k : Nat) : (tr m a).add k = tr m ⟨a.block, a.off + k, none⟩ := by
  simp [tr, Addr.add_lit, Nat.add_assoc]

theorem ptrAdd_run {t : TypeId} {f : Nat} {x x' v : Value} (h : ptrAdd (tField P t f) x = some v) (hx : VR n J false x x') :
    ∃ v', VR n J false v v' ∧ ∀ w, (Instr.fieldAt t x' f).run P w = .ok v' w := by
  unfold ptrAdd at h
  split at h
  · rename_i off ag m a hf
    cases h
    obtain ⟨fs, fd, hu, hfd, hoff, hag, hm⟩ := tField_some hf
    obtain ⟨i, hi, hsz, _⟩ := tAgg_some hag
    obtain ⟨hb, hs, rfl⟩ := hx.ptr_inv
    refine ⟨_, .one (.ptr (a := ⟨a.block, a.off + off, none⟩) hb rfl), fun w => ?_⟩
    have : i.size ≠ 0 := by omega
    simp [Instr.fieldAt, run_underlying hu, hfd, Instr.sureAddr, fieldPlace, run_sizeOf hi, this, hoff, tr_add]
  · cases h

theorem extract_rel {cs cs' : Array Value} (hs : cs.size = cs'.size) (h : ∀ (i : Nat) (x y : Value), cs[i]? = some x → cs'[i]? = some y → VR n J true x y) (a b : Nat) :
    VR n J false (.agg (cs.extract a b)) (.agg (cs'.extract a b)) := by
  refine .agg (by simp [hs]) (fun i x y hx hy => ?_)
  rw [Array.getElem?_extract] at hx hy
  split at hx
  · split at hy
    · exact h _ x y hx hy
    · cases hy
  · cases hx

theorem part_run {ft off m : Nat} {ag : Bool} {cs cs' : Array Value} {v : Value} (ha : tAgg P ft = some (ag, m)) (h : partV (some (off, ag, m)) (.agg cs) = some v) (hs : cs.size = cs'.size)
    (hr : ∀ (i : Nat) (x y : Value), cs[i]? = some x → cs'[i]? = some y → VR n J true x y) : ∃ v', VR n J false v v' ∧ ∀ w, (part ft cs' off).run P w = .ok v' w := by
  obtain ⟨i, hi, hsz, hag⟩ := tAgg_some ha
  simp only [partV] at h
  split at h
  · rename_i hle
    cases ag with
    | true =>
      simp at h
      cases h
      exact ⟨_, extract_rel hs hr _ _, fun w => by simp [part, hag, run_sizeOf hi, hsz]⟩
    | false =>
      simp at h
      have hlt := (Array.getElem?_eq_some_iff.1 h).1
      have hg := Array.getElem?_eq_getElem (xs := cs') (i := off) (by omega)
      exact ⟨_, .one (hr off v _ h hg), fun w => by simp [part, hag, hg]⟩
  · cases h

/-! ## Equality, part by part -/

theorem partsE_run {t : TypeId} {off d : Nat} {xs ys xs' ys' : Array Value} {f : Value → Value → Option Bool} {b : Bool} (h : partsE (tAgg P t) off xs ys f = some b) (hx : VR n J false (.agg xs) (.agg xs')) (hy : VR n J false (.agg ys) (.agg ys'))
    (hf : ∀ {x y x' y' : Value} {b : Bool}, f x y = some b → VR n J false x x' → VR n J false y y' → ∀ w, (Op.equalIn d t x' y').run P w = .ok b w) : ∃ a c, (∀ w, (part t xs' off).run P w = .ok a w) ∧ (∀ w, (part t ys' off).run P w = .ok c w) ∧ ∀ w, (Op.equalIn d t a c).run P w = .ok b w := by
  obtain ⟨_, e1, hs1, hr1⟩ := hx.agg_inv
  obtain ⟨_, e2, hs2, hr2⟩ := hy.agg_inv
  cases e1; cases e2
  unfold partsE at h
  split at h
  · rename_i ag m ha
    split at h
    · rename_i a c h1 h2
      obtain ⟨a', v1, r1⟩ := part_run ha h1 hs1 hr1
      obtain ⟨c', v2, r2⟩ := part_run ha h2 hs2 hr2
      exact ⟨a', c', r1, r2, hf h v1 v2⟩
    · cases h
  · cases h

theorem eqIn_run {d : Nat} : ∀ {t : TypeId} {x y x' y' : Value} {b : Bool}, eqIn P d t x y = some b → VR n J false x x' → VR n J false y y' → ∀ w, (Op.equalIn d t x' y').run P w = .ok b w := by
  induction d with
  | zero => intro t x y x' y' b h; simp [eqIn] at h
  | succ d ih =>
    intro t x y x' y' b h hx hy w
    simp only [eqIn] at h
    split at h
    · rename_i hu; cases h; cases hx.bool_inv; cases hy.bool_inv; simp [Op.equalIn, run_underlying hu]
    · rename_i hu; split at h <;> cases h
      rename_i hk; cases hk; cases hx.int_inv; cases hy.int_inv; simp [Op.equalIn, run_underlying hu]
    · rename_i hu; cases h; cases hx.string_inv; cases hy.string_inv; simp [Op.equalIn, run_underlying hu]
    · rename_i b' hu; cases h; cases hx.nilPtr_inv
      cases b' with
      | none => cases hy.nilPtr_inv; simp [Op.equalIn, run_underlying hu]
      | some a => cases hy.ptr_inv.2.2; simp [Op.equalIn, run_underlying hu]
    · rename_i hu; cases h; cases hy.nilPtr_inv; cases hx.ptr_inv.2.2; simp [Op.equalIn, run_underlying hu]
    · rename_i fs xs ys hu
      obtain ⟨xs', rfl, _⟩ := hx.agg_inv
      obtain ⟨ys', rfl, _⟩ := hy.agg_inv
      split at h
      · cases h
      · rename_i hsi
        have hfs : P.fieldsOf t = fs := by simp [Program.fieldsOf, hu]
        rw [run_equalIn_struct w d t xs' ys' (by rw [hfs]; exact hu) (by simpa using hsi), hfs]
        generalize fs.toList = l at h
        clear hfs hu
        induction l generalizing b with
        | nil => simp [allE] at h; subst h; simp [Op.eqFields]
        | cons f r ihr =>
          simp only [allE] at h
          split at h
          · rename_i b1 h1
            split at h
            · rename_i b2 h2
              cases h
              have hr := ihr h2
              simp only [Op.eqFields]
              split at h1
              · rename_i hn; cases h1; simp [hn, hr]
              · rename_i hn
                obtain ⟨a, c, r1, r2, r3⟩ := partsE_run h1 hx hy ih
                simp only [ne_eq, hn, not_false_eq_true, if_true, Sem.run_bind, r1, r2, r3, Result.andThen_ok]
                cases b1
                · simp
                · simp [hr]
            · cases h
          · cases h
    · rename_i m e xs ys hu
      obtain ⟨xs', rfl, _⟩ := hx.agg_inv
      obtain ⟨ys', rfl, _⟩ := hy.agg_inv
      cases ha : tAgg P e with
      | none =>
        rw [ha] at h
        cases h
      | some am =>
        obtain ⟨ag, k⟩ := am
        obtain ⟨i, hi, hsz, hag⟩ := tAgg_some ha
        have hk := run_sizeOf hi
        simp only [Op.equalIn, Sem.run_bind, run_underlying hu, Result.andThen_ok, hk, hsz, Std.Legacy.Range.forIn_eq_forIn_range', Std.Legacy.Range.size, Nat.sub_zero, Nat.add_sub_cancel, Nat.div_one]
        rw [ha] at h
        simp only [List.range_eq_range'] at h
        generalize List.range' 0 m = l at h ⊢
        clear hu
        induction l generalizing b with
        | nil => simp [allE] at h; subst h; simp
        | cons j r ihr =>
          simp only [allE] at h
          split at h
          · rename_i b1 h1
            split at h
            · rename_i b2 h2
              cases h
              have hr := ihr h2
              rw [← ha] at h1
              obtain ⟨a, c, r1, r2, r3⟩ := partsE_run h1 hx hy ih
              simp only [List.forIn_cons, Sem.run_bind, r1, r2, r3, Result.andThen_ok]
              cases b1
              · simp
              · simpa using hr
            · cases h
          · cases h
    · cases h

theorem binV_run {op : BinOp} {t : TypeId} {x y v x' y' : Value} (h : binV P op t x y = some v) (hx : VR n J false x x') (hy : VR n J false y y') (ox oy : Operand) (w : World) :
    (do eqGuard op t ox oy x' y'; binOp op t x' y').run P w = .ok v w ∧ VR n J false v v := by
  have fin : ∀ u, (∃ k i, u = Value.int k i) ∨ (∃ c, u = .bool c) ∨ (∃ s, u = .string s) → VR n J false u u := by
    rintro u (⟨k, i, rfl⟩ | ⟨c, rfl⟩ | ⟨s, rfl⟩)
    · exact .one (.int k i)
    · exact .one (.bool c)
    · exact .one (.string s)
  unfold binV at h
  split at h
  · -- ints
    cases hx.int_inv
    cases hy.int_inv
    have h1 : ∀ {k k' : IntKind} {a b : Int} (r : Result Value), (binOp op t (.int k a) (.int k' b)).run P w = r → (do eqGuard op t ox oy (.int k a) (.int k' b); binOp op t (.int k a) (.int k' b)).run P w = r := fun r hr => by
      rw [eqGuard_at_int]; simpa using hr
    split at h
    · obtain ⟨e1, u, rfl⟩ := shiftOp_run h t w
      exact ⟨h1 _ e1, fin _ (.inl ⟨_, _, rfl⟩)⟩
    · obtain ⟨e1, u, rfl⟩ := shiftOp_run h t w
      exact ⟨h1 _ e1, fin _ (.inl ⟨_, _, rfl⟩)⟩
    · split at h
      · rename_i hne1 hne2 hk
        subst hk
        obtain ⟨e1, u, hv⟩ := intOp_run h (by rintro rfl; exact hne1 rfl) (by rintro rfl; exact hne2 rfl) t w
        refine ⟨h1 _ e1, fin _ ?_⟩
        rcases hv with rfl | ⟨c, rfl⟩
        · exact .inl ⟨_, _, rfl⟩
        · exact .inr (.inl ⟨_, rfl⟩)
      · cases h
  · -- strings
    cases hx.string_inv
    cases hy.string_inv
    obtain ⟨e1, hv⟩ := strOp_run h t w
    refine ⟨by rw [eqGuard_at_string]; simpa using e1, fin _ ?_⟩
    rcases hv with ⟨s, rfl⟩ | ⟨c, rfl⟩
    · exact .inr (.inr ⟨_, rfl⟩)
    · exact .inr (.inl ⟨_, rfl⟩)
  · -- bools
    rename_i a b
    cases hx.bool_inv
    cases hy.bool_inv
    split at h
    · rename_i ht'
      rw [if_pos rfl] at h
      obtain ⟨e1, c, rfl⟩ := eqOp_run (P := P) (w := w) (t := t) (x := .bool a) (y := .bool b) h (eq_of fun d => by simp [Op.equalIn, run_underlying ht']) (by constructor <;> simp [binOp])
      exact ⟨by rw [eqGuard_at_bool]; simpa using e1, fin _ (.inr (.inl ⟨_, rfl⟩))⟩
    · simp at h
  · -- nil, pointer
    rename_i b
    cases hx.nilPtr_inv
    split at h
    · rename_i ht'
      rw [if_pos rfl] at h
      have hy' : ∃ b', y' = .pointer b' ∧ b'.isNone = b.isNone := by
        cases b with
        | none => exact ⟨none, hy.nilPtr_inv, rfl⟩
        | some a => exact ⟨_, hy.ptr_inv.2.2, rfl⟩
      obtain ⟨b', rfl, hb⟩ := hy'
      obtain ⟨e1, c, rfl⟩ := eqOp_run (P := P) (w := w) (t := t) (x := .pointer none) (y := .pointer b') h (eq_of fun d => by simp [Op.equalIn, run_underlying ht', hb]) (by constructor <;> simp [binOp])
      exact ⟨by rw [eqGuard_at_pointer]; simpa using e1, fin _ (.inr (.inl ⟨_, rfl⟩))⟩
    · simp at h
  · -- pointer, nil
    cases hy.nilPtr_inv
    cases hx.ptr_inv.2.2
    split at h
    · rename_i ht'
      rw [if_pos rfl] at h
      obtain ⟨e1, c, rfl⟩ := eqOp_run (P := P) (w := w) (t := t) (x := .pointer (some _)) (y := .pointer none) h (eq_of fun d => by simp [Op.equalIn, run_underlying ht']) (by constructor <;> simp [binOp])
      exact ⟨by rw [eqGuard_at_pointer]; simpa using e1, fin _ (.inr (.inl ⟨_, rfl⟩))⟩
    · simp at h
  · -- nil, slice
    rename_i l c b l' c'
    obtain ⟨rfl, rfl, rfl⟩ := hx.nilSlice_inv
    split at h
    · rename_i ht'
      rw [if_pos rfl] at h
      have hy' : ∃ b' l1 c1, y' = .slice b' l1 c1 ∧ b'.isNone = b.isNone := by
        cases b with
        | none => exact ⟨none, _, _, hy.nilSlice_inv.2.2, rfl⟩
        | some a => obtain ⟨a', c', e, _⟩ := hy.slice_inv; exact ⟨_, _, _, e, rfl⟩
      obtain ⟨b', l1, c1, rfl, hb⟩ := hy'
      obtain ⟨e1, c, rfl⟩ := eqOp_run (P := P) (w := w) (t := t) (x := .slice none 0 0) (y := .slice b' l1 c1) h (eq_of fun d => by simp [Op.equalIn, run_underlying ht', hb]) (by constructor <;> simp [binOp])
      exact ⟨by rw [eqGuard_at_slice]; simpa using e1, fin _ (.inr (.inl ⟨_, rfl⟩))⟩
    · simp at h
  · -- slice, nil
    obtain ⟨_, _, rfl⟩ := hy.nilSlice_inv
    obtain ⟨a', c', rfl, _⟩ := hx.slice_inv
    split at h
    · rename_i ht'
      rw [if_pos rfl] at h
      obtain ⟨e1, c, rfl⟩ := eqOp_run (P := P) (w := w) (t := t) (x := .slice (some a') _ c') (y := .slice none 0 0) h (eq_of fun d => by simp [Op.equalIn, run_underlying ht']) (by constructor <;> simp [binOp])
      exact ⟨by rw [eqGuard_at_slice]; simpa using e1, fin _ (.inr (.inl ⟨_, rfl⟩))⟩
    · simp at h
  · -- nil, map
    rename_i b
    cases hx.nilMap_inv
    split at h
    · rename_i ht'
      rw [if_pos rfl] at h
      have hy' : ∃ b', y' = .map b' ∧ b'.isNone = b.isNone := by
        cases b with
        | none => exact ⟨none, hy.nilMap_inv, rfl⟩
        | some a => exact ⟨_, hy.map_inv.2, rfl⟩
      obtain ⟨b', rfl, hb⟩ := hy'
      obtain ⟨e1, c, rfl⟩ := eqOp_run (P := P) (w := w) (t := t) (x := .map none) (y := .map b') h (eq_of fun d => by simp [Op.equalIn, run_underlying ht', hb]) (by constructor <;> simp [binOp])
      exact ⟨by rw [eqGuard_at_map]; simpa using e1, fin _ (.inr (.inl ⟨_, rfl⟩))⟩
    · simp at h
  · -- map, nil
    cases hy.nilMap_inv
    cases hx.map_inv.2
    split at h
    · rename_i ht'
      rw [if_pos rfl] at h
      obtain ⟨e1, c, rfl⟩ := eqOp_run (P := P) (w := w) (t := t) (x := .map (some _)) (y := .map none) h (eq_of fun d => by simp [Op.equalIn, run_underlying ht']) (by constructor <;> simp [binOp])
      exact ⟨by rw [eqGuard_at_map]; simpa using e1, fin _ (.inr (.inl ⟨_, rfl⟩))⟩
    · simp at h
  · -- nil functions
    cases hx.nilFunc_inv
    cases hy.nilFunc_inv
    split at h
    · rename_i ht'
      rw [if_pos rfl] at h
      obtain ⟨e1, c, rfl⟩ := eqOp_run (P := P) (w := w) (t := t) (x := .nilFunc) (y := .nilFunc) h (eq_of fun d => by simp [Op.equalIn, run_underlying ht']) (by constructor <;> simp [binOp])
      exact ⟨by rw [eqGuard_at_nilFunc]; simpa using e1, fin _ (.inr (.inl ⟨_, rfl⟩))⟩
    · simp at h
  · cases hx.nilFunc_inv
    obtain ⟨g, cs, _, _, rfl, _⟩ := hy.func_inv
    split at h
    · rename_i ht'
      rw [if_pos rfl] at h
      obtain ⟨e1, c, rfl⟩ := eqOp_run (P := P) (w := w) (t := t) (x := .nilFunc) (y := .func _ _ _) h (eq_of fun d => by simp [Op.equalIn, run_underlying ht']) (by constructor <;> simp [binOp])
      exact ⟨by rw [eqGuard_at_nilFunc]; simpa using e1, fin _ (.inr (.inl ⟨_, rfl⟩))⟩
    · simp at h
  · cases hy.nilFunc_inv
    obtain ⟨g, cs, _, _, rfl, _⟩ := hx.func_inv
    split at h
    · rename_i ht'
      rw [if_pos rfl] at h
      obtain ⟨e1, c, rfl⟩ := eqOp_run (P := P) (w := w) (t := t) (x := .func _ _ _) (y := .nilFunc) h (eq_of fun d => by simp [Op.equalIn, run_underlying ht']) (by constructor <;> simp [binOp])
      exact ⟨by rw [eqGuard_at_func]; simpa using e1, fin _ (.inr (.inl ⟨_, rfl⟩))⟩
    · simp at h
  · cases hx.nilIface_inv
    obtain ⟨u, rfl, _⟩ := hy.iface_inv
    split at h
    · rename_i ht'
      rw [if_pos rfl] at h
      obtain ⟨e1, c, rfl⟩ := eqOp_run (P := P) (w := w) (t := t) (x := .nilIface) (y := .iface _ _) h (eq_of fun d => by simp [Op.equalIn, run_underlying ht']) (by constructor <;> simp [binOp])
      exact ⟨by rw [eqGuard_nil_iface]; simpa using e1, fin _ (.inr (.inl ⟨_, rfl⟩))⟩
    · simp at h
  · cases hy.nilIface_inv
    obtain ⟨u, rfl, _⟩ := hx.iface_inv
    split at h
    · rename_i ht'
      rw [if_pos rfl] at h
      obtain ⟨e1, c, rfl⟩ := eqOp_run (P := P) (w := w) (t := t) (x := .iface _ _) (y := .nilIface) h (eq_of fun d => by simp [Op.equalIn, run_underlying ht']) (by constructor <;> simp [binOp])
      exact ⟨by rw [eqGuard_at_iface]; simpa using e1, fin _ (.inr (.inl ⟨_, rfl⟩))⟩
    · simp at h
  · -- aggregates
    obtain ⟨xs', rfl, _⟩ := hx.agg_inv
    obtain ⟨ys', rfl, _⟩ := hy.agg_inv
    split at h
    · cases h
    · rename_i hg
      split at h
      · rename_i b hb
        have e := eqIn_run hb hx hy
        have hg' : P.eqGuardType P.depth t = false := by simpa using hg
        cases op <;> simp [eqOp] at h <;> subst h
        · exact ⟨by simp [run_eqGuard_agg, hg', run_eql_struct, e], fin _ (.inr (.inl ⟨_, rfl⟩))⟩
        · exact ⟨by simp [run_eqGuard_agg, hg', run_neq_struct, e], fin _ (.inr (.inl ⟨_, rfl⟩))⟩
      · cases h
  · cases h

theorem partV_run {t : TypeId} {f : Nat} {x x' v : Value} (h : partV (tField P t f) x = some v) (hx : VR n J false x x') :
    ∃ v', VR n J false v v' ∧ ∀ w, (Instr.field t x' f).run P w = .ok v' w := by
  cases hf : tField P t f with
  | none => rw [hf] at h; simp [partV] at h
  | some d =>
    obtain ⟨off, ag, m⟩ := d
    rw [hf] at h
    obtain ⟨fs, fd, hu, hfd, hoff, hag, hm⟩ := tField_some hf
    cases x with
    | agg cs =>
      obtain ⟨cs', rfl, hs, hr⟩ := hx.agg_inv
      obtain ⟨v', hv, hrun⟩ := part_run hag h hs hr
      exact ⟨v', hv, fun w => by simp [Instr.field, run_underlying hu, hfd, asAgg, hoff, hrun]⟩
    | _ => simp [partV] at h

theorem tElem_slice {t : TypeId} {ag : Bool} {m : Nat} (h : tElem P t = some (none, ag, m)) : ∃ e, P.underlying t = some (.slice e) ∧ tAgg P e = some (ag, m) := by
  unfold tElem at h
  split at h
  · rename_i e hu
    cases ha : tAgg P e with
    | none => rw [ha] at h; cases h
    | some x => rw [ha] at h; simp at h; exact ⟨e, hu, by rw [ha]; simp [← h.1, ← h.2]⟩
  · rename_i l e hu
    cases ha : tAgg P e with
    | none => rw [ha] at h; cases h
    | some x => rw [ha] at h; simp at h
  · cases h

theorem tElem_array {t : TypeId} {l : Nat} {ag : Bool} {m : Nat} (h : tElem P t = some (some l, ag, m)) : ∃ e, P.underlying t = some (.array l e) ∧ tAgg P e = some (ag, m) := by
  unfold tElem at h
  split at h
  · rename_i e hu
    cases ha : tAgg P e with
    | none => rw [ha] at h; cases h
    | some x => rw [ha] at h; simp at h
  · rename_i l e hu
    cases ha : tAgg P e with
    | none => rw [ha] at h; cases h
    | some x => rw [ha] at h; simp at h; exact ⟨e, by rw [hu, h.1], by rw [ha]; simp [← h.2.1, ← h.2.2]⟩
  · cases h

theorem idxAddr_run {t : TypeId} {x i x' i' v : Value} (h : idxAddr (tElem P t) x i = some v) (hx : VR n J false x x') (hi : VR n J false i i') :
    ∃ v', VR n J false v v' ∧ ∀ w, (Instr.indexAt t x' i').run P w = .ok v' w := by
  unfold idxAddr at h
  split at h
  · rename_i ag m a l c q j he
    split at h
    · rename_i hj
      cases h
      cases hi.int_inv
      obtain ⟨a', c', rfl, hb, hs, hl, hc, ha, hcap⟩ := hx.slice_inv
      obtain ⟨e, hu, hag⟩ := tElem_slice he
      obtain ⟨ii, hii, hsz, _⟩ := tAgg_some hag
      have ha' : a' = tr (J a.block) a := ha.resolve_left (by omega)
      subst ha'
      refine ⟨_, .one (.ptr (a := ⟨a.block, a.off + j.toNat * m, none⟩) hb rfl), fun w => ?_⟩
      simp [Instr.indexAt, asIntOf, run_underlying hu, hj, run_sizeOf hii, hsz, tr_add]
    · cases h
  · rename_i l ag m a q j he
    split at h
    · rename_i hj
      cases h
      cases hi.int_inv
      obtain ⟨hb, hs, rfl⟩ := hx.ptr_inv
      obtain ⟨e, hu, hag⟩ := tElem_array he
      obtain ⟨ii, hii, hsz, _⟩ := tAgg_some hag
      refine ⟨_, .one (.ptr (a := ⟨a.block, a.off + j.toNat * m, none⟩) hb rfl), fun w => ?_⟩
      simp [Instr.indexAt, asIntOf, run_underlying hu, Instr.sureAddr, hj, run_sizeOf hii, hsz, tr_add]
    · cases h
  · cases h

theorem idxVal_run {t : TypeId} {x i x' i' v : Value} (h : idxVal (tIsStr P t) (tElem P t) x i = some v) (hx : VR n J false x x') (hi : VR n J false i i') :
    ∃ v', VR n J false v v' ∧ ∀ w, (Instr.index t x' i').run P w = .ok v' w := by
  unfold idxVal at h
  split at h
  · rename_i cs q j
    split at h
    · rename_i l ag m he
      split at h
      · rename_i hj
        cases hi.int_inv
        obtain ⟨cs', rfl, hs, hr⟩ := hx.agg_inv
        obtain ⟨e, hu, hag⟩ := tElem_array he
        obtain ⟨ii, hii, hsz, _⟩ := tAgg_some hag
        obtain ⟨v', hv, hrun⟩ := part_run hag h hs hr
        refine ⟨v', hv, fun w => ?_⟩
        simp [Instr.index, asIntOf, run_underlying hu, hj, run_sizeOf hii, hsz, hrun]
      · cases h
    · cases h
  · rename_i s q j
    split at h
    · rename_i hstr
      split at h
      · rename_i hj
        cases hi.int_inv
        cases hx.string_inv
        have hu : P.underlying t = some .string := by
          unfold tIsStr at hstr
          split at hstr
          · assumption
          · cases hstr
        cases hb : s[j.toNat]? with
        | none => rw [hb] at h; cases h
        | some b =>
          rw [hb] at h
          simp at h
          subst h
          exact ⟨_, .one (.int _ _), fun w => by simp [Instr.index, asIntOf, run_underlying hu, hj, hb]⟩
      · cases h
    · cases h
  · cases h

theorem extV_run {x x' v : Value} {i : Nat} (h : extV x i = some v) (hx : VR n J false x x') : ∃ v', VR n J false v v' ∧ ∀ w, (Instr.extract x' i).run P w = .ok v' w := by
  unfold extV at h
  split at h
  · rename_i vs
    have hlt := (Array.getElem?_eq_some_iff.1 h).1
    obtain ⟨vs', rfl, hs, hr⟩ := hx.tuple_inv (by omega)
    have hg := Array.getElem?_eq_getElem (xs := vs') (i := i) (by omega)
    exact ⟨_, hr i v _ h hg, fun w => by simp [Instr.extract, hg]⟩
  · cases h

theorem tInt_some {t : TypeId} {k : IntKind} (h : tInt P t = some k) : P.underlying t = some (.int k) := by
  unfold tInt at h
  split at h
  · cases h; assumption
  · cases h

theorem convV_run {src dst : TypeId} {x x' v : Value} (h : convV (P.underlying src).isSome (tInt P dst) x = some v) (hx : VR n J false x x') :
    VR n J false v v ∧ ∀ w, (convert src dst x').run P w = .ok v w := by
  unfold convV at h
  split at h
  · rename_i k q m hk
    split at h
    · rename_i hs
      cases h
      cases hx.int_inv
      obtain ⟨d, hd⟩ := Option.isSome_iff_exists.1 hs
      exact ⟨.one (.int _ _), fun w => by simp [convert, run_underlying hd, run_underlying (tInt_some hk), Conv.intToInt]⟩
    · cases h
  · cases h

end Go.Zz
