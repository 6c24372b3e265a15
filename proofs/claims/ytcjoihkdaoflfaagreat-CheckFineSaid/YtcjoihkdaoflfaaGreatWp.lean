/- Slices of integers that come in. -/
import Derived.Test.YtcjoihkdaoflfaaGreatWo
set_option linter.all false
set_option maxRecDepth 20000
namespace Go.Zz
open Go

/-- A slice of integers that came in: nil; or it leads to a row of 'cap' cells, the numbers 'zs'; none of it is frozen. -/
def IsRowF (k : IntKind) (w : World) (a : Option Addr) (len cap : Nat) (zs : List Int) : Prop :=
  (a = none ∧ len = 0 ∧ cap = 0 ∧ zs = []) ∨
  ∃ x, a = some x ∧ len ≤ cap ∧ cap ≤ maxLen ∧ zs.length = cap ∧ (∀ i, i < zs.length → w.cell? (x.add i) = some (.int k (zs.getD i 0))) ∧ (∀ i, i < zs.length → w.frozen? ⟨x.block, x.off + i, none⟩ = false) ∧ ∀ n ∈ zs, (Lit.int k n).wf = true

def rngOf (a : Option Addr) (cap : Nat) : List Rng := match a with
  | some x => if cap = 0 then [] else [⟨x.block, x.off, cap⟩]
  | none => []

theorem cell_inv {w : World} {a : Addr} {v : Value} (h : w.cell? a = some v) : ∃ c e fr, w.heap[a.block]? = some (.cells c e fr) ∧ a.spot = none ∧ c[a.off]? = some v := by
  unfold World.cell? at h
  split at h
  · rename_i c e fr hc
    split at h
    · cases h
    · rename_i hs
      exact ⟨c, e, fr, hc, by simpa using hs, h⟩
  · cases h

theorem IsRowF.cells {k : IntKind} {w : World} {x : Addr} {len cap : Nat} {zs : List Int} (h : IsRowF k w (some x) len cap zs) (h0 : cap ≠ 0) : zs.length = cap ∧ len ≤ cap ∧ cap ≤ maxLen ∧ x.spot = none ∧
    ∃ c e fr, w.heap[x.block]? = some (.cells c e fr) ∧ (∀ i, i < cap → c[x.off + i]? = some (.int k (zs.getD i 0))) ∧ ∀ i, i < cap → ¬ (fr.1 ≤ x.off + i ∧ x.off + i < fr.2) := by
  rcases h with ⟨h, _⟩ | ⟨y, hy, hl, hm, hz, hc, hf, _⟩
  · cases h
  · cases hy
    have c0 := hc 0 (by omega)
    have e0 : x.add 0 = x := rfl
    rw [e0] at c0
    obtain ⟨c, e, fr, g1, g2, g3⟩ := cell_inv c0
    refine ⟨hz, hl, hm, g2, c, e, fr, g1, fun i hi => ?_, fun i hi => ?_⟩
    · have ci := hc i (by omega)
      by_cases h0 : i = 0
      · subst h0; simpa using g3
      · have ea : x.add i = ⟨x.block, x.off + i, none⟩ := by simp [Addr.add, h0]
        rw [ea] at ci
        obtain ⟨c', e', fr', k1, _, k3⟩ := cell_inv ci
        simp only at k1 k3
        rw [g1] at k1; cases k1
        exact k3
    · have := hf i (by omega)
      simp only [World.frozen?, g1] at this
      simp at this
      omega

theorem IsRowF.known {k : IntKind} {w : World} {a : Option Addr} {len cap : Nat} {zs : List Int} (h : IsRowF k w a len cap zs) : ∀ r ∈ rngOf a cap, r.Known w := by
  intro r hr
  cases a with
  | none => simp [rngOf] at hr
  | some x =>
    by_cases h0 : cap = 0
    · simp [rngOf, h0] at hr
    · simp only [rngOf, if_neg h0, List.mem_singleton] at hr
      subst hr
      obtain ⟨_, _, _, _, c, e, fr, g1, g2, g3⟩ := h.cells h0
      refine ⟨by simp only; omega, c, e, fr, g1, fun o h1 h2 => ?_⟩
      simp only at h1 h2
      have a2 := g2 (o - x.off) (by omega)
      have a3 := g3 (o - x.off) (by omega)
      have eo : x.off + (o - x.off) = o := by omega
      rw [eo] at a2 a3
      exact ⟨_, a2, rfl, a3⟩

def intE (k : IntKind) : Enc Int 1 := ⟨fun n => [.int k n], fun _ => rfl⟩
theorem intE_row {k : IntKind} {zs : List Int} : (intE k).row zs = zs.map (.int k ·) := by
  induction zs with
  | nil => rfl
  | cons z t ih => rw [Enc.row_cons, ih]; rfl
theorem Sl_nat {s : St} {v : Value} {zs : List Int} (h : (intE .u64).Sl s v zs) (h0 : ∀ z ∈ zs, 0 ≤ z) : u64E.Sl s v (zs.map Int.toNat) := by
  have e : u64E.row (zs.map Int.toNat) = (intE .u64).row zs := by
    rw [intE_row]
    clear h
    induction zs with
    | nil => rfl
    | cons z t ih =>
      have hz : ((z.toNat : Nat) : Int) = z := Int.toNat_of_nonneg (h0 z (by simp))
      simp only [List.map_cons, Enc.row_cons, ih (fun y hy => h0 y (by simp [hy])), u64E_cells, hz]
      rfl
  cases h with
  | nil => exact .nil
  | empty => exact .empty
  | row h =>
    obtain ⟨pre, post, tl, hb, ho⟩ := h
    have := Enc.Sl.row (E := u64E) (s := s) (c := 0) (xs := zs.map Int.toNat) ⟨pre, post, tl, by rw [e]; exact hb, ho⟩
    rename_i b o c
    have h2 := Enc.Sl.row (E := u64E) (s := s) (c := c) (xs := zs.map Int.toNat) (b := b) (o := o) ⟨pre, post, tl, by rw [e]; exact hb, ho⟩
    simpa using h2

theorem IsRowF.val {k : IntKind} {w : World} {a : Option Addr} {len cap : Nat} {zs : List Int} (h : IsRowF k w a len cap zs) {H : List Rng} (hk : ∀ r ∈ H, r.Known w) (hH : ∀ r ∈ rngOf a cap, ∃ q ∈ H, r.Sub q) :
    ∃ v, VR (stR w H).next (JR H) false v (.slice a len cap) ∧ Old (stR w H) v ∧ (intE k).Sl (stR w H) v (zs.take len) := by
  cases a with
  | none =>
    rcases h with ⟨_, rfl, rfl, rfl⟩ | ⟨x, hx, _⟩
    · exact ⟨.slice none 0 0, .one .nilSlice, fun b o l c e => (by cases e), by simpa using Enc.Sl.nil⟩
    · cases hx
  | some x =>
    have hmax : maxLen = 9223372036854775807 := rfl
    by_cases h0 : cap = 0
    · subst h0
      rcases h with ⟨h, _⟩ | ⟨y, hy, hl, hm, hz, _⟩
      · cases h
      · have hl0 : len = 0 := by omega
        subst hl0
        refine ⟨.slice (some ⟨0, 0, none⟩) 0 0, .one (.slice (by simp only [stR]; omega) rfl (Nat.le_refl _) (by omega) (.inl rfl) (.inl rfl)), fun b o l c e => by cases e; simp only [stR]; omega, ?_⟩
        have : zs.take 0 = [] := rfl
        rw [this]
        exact .empty
    · obtain ⟨hz, hl, hm, hsp, c, e, fr, g1, g2, g3⟩ := h.cells h0
      obtain ⟨q, hq, hcb, hlo, hhi⟩ := hH ⟨x.block, x.off, cap⟩ (by simp [rngOf, h0])
      simp only at hcb hlo hhi
      obtain ⟨i, hi, rfl⟩ := List.getElem_of_mem hq
      have hgi : H[i]? = some H[i] := List.getElem?_eq_getElem hi
      have hheap : (stR w H).heap (1000 + i) = some (.cells (rngCells w H[i]) false) := by
        have : 1000 + i - 1000 = i := by omega
        simp [stR, this, hi]
      have hval : ∀ j, j < cap → (rngCells w H[i])[x.off - H[i].lo + j]? = some (.int k (zs.getD j 0)) := fun j hj => by
        have e1 : H[i].lo + (x.off - H[i].lo + j) = x.off + j := by omega
        simp only [rngCells, List.getElem?_map, List.getElem?_range (show x.off - H[i].lo + j < H[i].n by omega), Option.map_some, World.cell?, e1, ← hcb, g1]
        simp [g2 j hj]
      refine ⟨.slice (some ⟨1000 + i, x.off - H[i].lo, none⟩) len cap, .one (.slice (by simp only [stR]; omega) rfl hl (by omega) (.inr ?_) (.inl rfl)), fun b o l c e => by cases e; simp only [stR]; omega, ?_⟩
      · rw [JR_at hgi]
        cases x with | mk xb xo xs =>
        simp only at hcb hlo hsp
        subst hsp
        simp only [tr, hcb]
        congr 1
        omega
      · have hlen : (zs.take len).length = len := by simp; omega
        have := Enc.Sl.row (E := intE k) (s := stR w H) (b := 1000 + i) (o := x.off - H[i].lo) (c := cap) (xs := zs.take len)
          ⟨(rngCells w H[i]).take (x.off - H[i].lo), (rngCells w H[i]).drop (x.off - H[i].lo + len), false, ?_, ?_⟩
        · rwa [hlen] at this
        · rw [hheap]
          congr 2
          have e3 : (intE k).row (zs.take len) = ((rngCells w H[i]).drop (x.off - H[i].lo)).take len := by
            rw [intE_row]
            apply List.ext_getElem?
            intro j
            by_cases hj : j < len
            · rw [List.getElem?_take_of_lt hj, List.getElem?_drop, hval j (by omega), List.getElem?_map, List.getElem?_take_of_lt hj]
              have hjz : j < zs.length := by omega
              rw [List.getElem?_eq_getElem hjz, List.getD_eq_getElem?_getD, List.getElem?_eq_getElem hjz]
              rfl
            · rw [List.getElem?_eq_none (by simp; omega), List.getElem?_eq_none (by simp; omega)]
          rw [e3, ← List.drop_drop, List.take_append_drop, List.take_append_drop]
        · simp [rngCells]; omega

theorem u64xbounds {z : Int} (h : (Lit.int .u64 z).wf = true) : 0 ≤ z ∧ z < 18446744073709551616 := by
  simp [Lit.wf, IntKind.min, IntKind.max, IntKind.signed, IntKind.bits] at h
  omega
theorem u8xbounds {z : Int} (h : (Lit.int .u8 z).wf = true) : 0 ≤ z ∧ z < 256 := by
  simp [Lit.wf, IntKind.min, IntKind.max, IntKind.signed, IntKind.bits] at h
  omega
theorem IsRowF.bounds {w : World} {a : Option Addr} {len cap : Nat} {zs : List Int} (h : IsRowF .u64 w a len cap zs) : ∀ z ∈ zs, 0 ≤ z ∧ z < 18446744073709551616 := by
  rcases h with ⟨_, _, _, rfl⟩ | ⟨x, _, _, _, _, _, _, hw⟩
  · simp
  · exact fun z hz => u64xbounds (hw z hz)

/-- All that is said of calls is so, where the sort is laid. -/
theorem all_sound : Sound P 1000 (CC laidS) := sound_calls (Nat.le_refl _) follows sort_sound

/-- A law that has turned nothing: the end. -/
theorem law_end {f : FuncId} {w : World} {H : List Rng} {args : List Value} {args' : Array Value} (hk : ∀ r ∈ H, r.Known w) (hp : H.Pairwise Rng.Apart) (hb : hasBody P f = true) (hv : VRs (stR w H).next (JR H) args args')
    (h : CC laidS f args (fun v s => v = .bool true ∧ s = stR w H) (stR w H)) : Calls P f args' w fun e w' => e = .returned (.bool true) ∧ Go.RowKit.Below w.heap.size w w' := by
  have := all_sound f args _ _ h (JR H) w args' (stR_sim w H hk hp) hv hb
  rw [callsIn_wide] at this
  refine this.mono ?_
  rintro e w' ⟨v', rfl, v, s1, J1, ⟨rfl, rfl⟩, hvr, hS, hst⟩
  rw [hvr.bool_inv]
  exact ⟨rfl, hst.os, hst.tape.1, hst.out, hst.size, fun cb hcb => stR_kept hk hS hst hcb⟩

end Go.Zz
