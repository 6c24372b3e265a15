/- What lies aside is put behind the rest; 'down': an entry is split till the number stands alone. -/
import Derived.Test.YtcjoihkdaoflfaaGreatWe
set_option linter.all false
set_option maxRecDepth 20000
namespace Go.Zz
open Go

variable {laid : Laid}

theorem bsl_hd {cs : List Value} (h : cs.length = 34) : bslN (some (83, 34, 48, .int .i64 0 :: .int .u64 0 :: u8s (zs 32))) 1 #[(0, .agg cs.toArray)] = some (.cells cs false, .slc 1 1) := by
  have := fold_lwr (vs := zeros (.int .i64 0 :: .int .u64 0 :: u8s (zs 32)) 34) (cs := cs) (off := 0) (by simp [h])
  simp [h] at this
  simp [bslN, fillV, data, Instr.fill, Value.cells, h]
  rw [this]

theorem punc1xspec (hl : Bare laid) {r : Nat} {v : Value} {tl : Bool} {ρ : Option Nat} {xs : List Hd} {x : Hd} {Q : Post} {s : St} (hr : s.heap r = some (.cells [v] tl)) (hrn : r < s.next) (ho : heldE.Own s v ρ xs) (hne : some r ≠ ρ) (hlen : xs.length < 1000)
    (hq : ∀ v' s' ρ', s'.heap r = some (.cells [v'] tl) → heldE.Own s' v' ρ' (xs ++ [x]) → some r ≠ ρ' → s.next ≤ s'.next → Grew s ρ ρ' → (∀ b, b < s.next → b ≠ r → some b ≠ ρ → s'.heap b = s.heap b) → (Long s ρ → Long s' ρ') → Q (.tuple #[]) s') :
    CC laid 33 [.agg (heldE.cells x).toArray, .pointer (some ⟨r, 0, none⟩)] Q s := by
  refine calls_body (hl 33 (by decide)) ?_
  rw [f33xeq, f33xS]
  have hb := bsl_hd (cs := .int .i64 x.d :: .int .u64 x.f :: u8s x.key.1) (by simp)
  simp -implicitDefEqProofs (disch := first | omega | (simp -implicitDefEqProofs <;> omega) | fail) [wrap_i64, wrap_u64, wrap_u8, binV_shr, binV_shl, binV_rem, binV_quo, Int.fdiv_eq_ediv_of_nonneg, Int.tdiv_eq_ediv_of_nonneg, Int.tmod_eq_emod_of_nonneg, callG_body, idxAddr_arr, idxAddr_slc, St.alloc_old, St.alloc_at, St.put_other, St.alloc_put_old, St.alloc_put_new, hr, hb]
  generalize hS : (s.alloc (.cells (.int .i64 x.d :: .int .u64 x.f :: u8s x.key.1) false)).alloc (.cells (.int .i64 x.d :: .int .u64 x.f :: u8s x.key.1) false) = S
  have hSn : S.next = s.next + 1 + 1 := by subst hS; simp
  have hold : ∀ b, b < s.next → S.heap b = s.heap b := fun b hb => by subst hS; simp -implicitDefEqProofs (disch := first | omega | (simp -implicitDefEqProofs <;> omega) | fail) [wrap_i64, wrap_u64, wrap_u8, binV_shr, binV_shl, binV_rem, binV_quo, Int.fdiv_eq_ediv_of_nonneg, Int.tdiv_eq_ediv_of_nonneg, Int.tmod_eq_emod_of_nonneg, callG_body, idxAddr_arr, idxAddr_slc, St.alloc_old, St.alloc_at, St.put_other, St.alloc_put_old, St.alloc_put_new]
  have hnew : S.heap (s.next + 1) = some (.cells (heldE.row [x]) false) := by subst hS; simp -implicitDefEqProofs (disch := first | omega | (simp -implicitDefEqProofs <;> omega) | fail) [wrap_i64, wrap_u64, wrap_u8, binV_shr, binV_shl, binV_rem, binV_quo, Int.fdiv_eq_ediv_of_nonneg, Int.tdiv_eq_ediv_of_nonneg, Int.tmod_eq_emod_of_nonneg, callG_body, idxAddr_arr, idxAddr_slc, St.alloc_old, St.alloc_at, St.put_other, St.alloc_put_old, St.alloc_put_new, Enc.row]
  clear hS
  have hsl : heldE.Sl S (.slice (some ⟨s.next + 1, 0, none⟩) 1 1) [x] := .row (xs := [x]) ⟨[], [], _, by simpa using hnew, rfl⟩
  have hnews := hsl.news (P := P) (t := 84) (bytes := 48) (zero := (.int .i64 0) :: (.int .u64 0) :: u8s (zs 32)) y_tZeros_84
  simp -implicitDefEqProofs (disch := first | omega | (simp -implicitDefEqProofs <;> omega) | fail) [wrap_i64, wrap_u64, wrap_u8, binV_shr, binV_shl, binV_rem, binV_quo, Int.fdiv_eq_ediv_of_nonneg, Int.tdiv_eq_ediv_of_nonneg, Int.tmod_eq_emod_of_nonneg, callG_body, idxAddr_arr, idxAddr_slc, St.alloc_old, St.alloc_at, St.put_other, St.alloc_put_old, St.alloc_put_new, hnews]
  have hbS : ∀ b, some b = ρ → b < s.next := fun b hb => by subst hb; exact ho.lt
  have hoS : heldE.Own S v ρ xs := ho.same (by omega) (fun b hb => hold b (hbS b hb.symm))
  refine hoS.append (ys := [x]) (by decide) (by simp; omega) (by simp; omega) fun v' s' ρ' h1 h2 h3 h4 h5 => ?_
  have hr' : s'.heap r = some (.cells [v] tl) := (h4 r (by omega) hne).trans ((hold r hrn).trans hr)
  have hnr : some r ≠ ρ' := by
    rcases h3 with h | ⟨b, h, hb⟩
    · rw [h]; exact hne
    · rw [h]; intro e; cases e; omega
  have hd := h1.val
  simp -implicitDefEqProofs (disch := first | omega | (simp -implicitDefEqProofs <;> omega) | fail) [wrap_i64, wrap_u64, wrap_u8, binV_shr, binV_shl, binV_rem, binV_quo, Int.fdiv_eq_ediv_of_nonneg, Int.tdiv_eq_ediv_of_nonneg, Int.tmod_eq_emod_of_nonneg, callG_body, idxAddr_arr, idxAddr_slc, St.alloc_old, St.alloc_at, St.put_other, St.alloc_put_old, St.alloc_put_new, hr', hd]
  refine kEnd_keep (hq v' _ ρ' St.put_self ?_ hnr (by simp; omega) ?_ (fun b hb hbr hbρ => ?_) (fun h b hb => ?_))
  · exact h1.same (by simp) (fun b hb => St.put_other (fun e => hnr (by rw [← e, hb])))
  · rcases h3 with h | ⟨b, h, hb⟩
    · exact .inl h
    · exact .inr ⟨b, h, by omega⟩
  · rw [St.put_other hbr, h4 b (by omega) hbρ, hold b hb]
  · rw [St.put_other (fun e => hnr (by rw [← e, hb]))]
    refine h5 (fun b hb => ?_) b hb
    rw [hold b (hbS b hb.symm)]
    exact h b hb

/-! ## The numbers of an entry -/
def Hd.Cov (h : Hd) (m : Nat) : Prop := h.f ≤ m ∧ m < h.f + 2 ^ (17 - h.d)
def Disj (x y : Hd) : Prop := ∀ m, ¬ (x.Cov m ∧ y.Cov m)
structure Hd.Ok (h : Hd) : Prop where
  d : h.d ≤ 17
  f : h.f + 2 ^ (17 - h.d) ≤ 131072

/-- The two halves of an entry. -/
def Hd.left (h : Hd) (xs : Bytes 32) : Hd := ⟨h.d + 1, h.f, xs⟩
def Hd.right (h : Hd) (ys : Bytes 32) : Hd := ⟨h.d + 1, h.f + 2 ^ (16 - h.d), ys⟩

theorem pow_half {d : Nat} (h : d < 17) : 2 ^ (17 - d) = 2 ^ (16 - d) + 2 ^ (16 - d) := by
  have : 17 - d = (16 - d) + 1 := by omega
  rw [this, Nat.pow_succ]; omega
theorem left_ok {h : Hd} (ho : h.Ok) (hd : h.d < 17) {xs : Bytes 32} : (h.left xs).Ok := by
  have h1 := pow_half hd
  have h2 := ho.f
  have h3 : 17 - (h.d + 1) = 16 - h.d := by omega
  refine ⟨by simp [Hd.left]; omega, ?_⟩
  simp only [Hd.left, h3]; generalize 2 ^ (16 - h.d) = q at *; omega
theorem right_ok {h : Hd} (ho : h.Ok) (hd : h.d < 17) {ys : Bytes 32} : (h.right ys).Ok := by
  have h1 := pow_half hd
  have h2 := ho.f
  have h3 : 17 - (h.d + 1) = 16 - h.d := by omega
  refine ⟨by simp [Hd.right]; omega, ?_⟩
  simp only [Hd.right, h3]; generalize 2 ^ (16 - h.d) = q at *; omega
theorem half_cov {h : Hd} (hd : h.d < 17) {xs ys : Bytes 32} (m : Nat) :
    (h.Cov m ↔ (h.left xs).Cov m ∨ (h.right ys).Cov m) ∧ ¬ ((h.left xs).Cov m ∧ (h.right ys).Cov m) ∧ ((h.right ys).Cov m ↔ h.Cov m ∧ (h.right ys).f ≤ m) := by
  have h1 := pow_half hd
  have h3 : 17 - (h.d + 1) = 16 - h.d := by omega
  simp only [Hd.Cov, Hd.left, Hd.right, h3]
  omega

/-- What 'down' hands aside. -/
structure Aside (h cur : Hd) (rest : List Hd) : Prop where
  len : rest.length + (17 - cur.d) ≤ 17 - h.d
  ok : ∀ x ∈ rest, x.Ok
  cov : ∀ m, (∃ x ∈ rest, x.Cov m) ↔ h.Cov m ∧ ¬ cur.Cov m
  sub : ∀ m, cur.Cov m → h.Cov m
  disj : rest.Pairwise Disj
theorem Aside.step {h cur nx sd : Hd} {rest : List Hd} (a : Aside h cur rest) (hd : cur.d < 17) (h1 : nx.d = cur.d + 1) (ho : sd.Ok) (hc : ∀ m, cur.Cov m ↔ nx.Cov m ∨ sd.Cov m) (hx : ∀ m, ¬ (nx.Cov m ∧ sd.Cov m)) : Aside h nx (rest ++ [sd]) where
  len := by have := a.len; simp; omega
  ok x hx := by
    rcases List.mem_append.1 hx with hx | hx
    · exact a.ok x hx
    · rw [List.mem_singleton.1 hx]; exact ho
  cov m := by
    have h1 := a.cov m
    have h2 := hc m
    have h3 := hx m
    have h4 := a.sub m
    constructor
    · rintro ⟨x, hx, hm⟩
      rcases List.mem_append.1 hx with hx | hx
      · have := h1.1 ⟨x, hx, hm⟩
        exact ⟨this.1, fun hn => this.2 (h2.2 (.inl hn))⟩
      · rw [List.mem_singleton.1 hx] at hm
        exact ⟨h4 (h2.2 (.inr hm)), fun hn => h3 ⟨hn, hm⟩⟩
    · rintro ⟨hm, hn⟩
      by_cases hcur : cur.Cov m
      · exact ⟨sd, by simp, (h2.1 hcur).resolve_left hn⟩
      · obtain ⟨x, hx, hxm⟩ := h1.2 ⟨hm, hcur⟩
        exact ⟨x, by simp [hx], hxm⟩
  sub m hm := a.sub m ((hc m).2 (.inl hm))
  disj := by
    rw [List.pairwise_append]
    refine ⟨a.disj, by simp, fun x hx y hy m hm => ?_⟩
    rw [List.mem_singleton.1 hy] at hm
    have := (a.cov m).1 ⟨x, hx, hm.1⟩
    exact this.2 ((hc m).2 (.inr hm.2))

end Go.Zz
