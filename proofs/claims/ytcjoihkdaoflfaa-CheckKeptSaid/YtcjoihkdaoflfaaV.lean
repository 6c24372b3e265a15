/- What the program's types come to, in the calculus. Printed by a program. -/
import Derived.Test.YtcjoihkdaoflfaaU
set_option linter.all false
namespace Go.Zz
open Go

@[simp] theorem y_P_underlying_22 : (P.underlying 22) = some (TypeDesc.slice 28) := by kernel_rfl
@[simp] theorem y_P_underlying_24 : (P.underlying 24) = some (TypeDesc.pointer 49) := by kernel_rfl
@[simp] theorem y_P_underlying_27 : (P.underlying 27) = some (TypeDesc.array 32 5) := by kernel_rfl
@[simp] theorem y_P_underlying_28 : (P.underlying 28) = some (TypeDesc.int IntKind.u64) := by kernel_rfl
@[simp] theorem y_P_underlying_28xisSome : (P.underlying 28).isSome = true := by kernel_rfl
@[simp] theorem y_P_underlying_3 : (P.underlying 3) = some (TypeDesc.int IntKind.i64) := by kernel_rfl
@[simp] theorem y_P_underlying_3xisSome : (P.underlying 3).isSome = true := by kernel_rfl
@[simp] theorem y_P_underlying_44 : (P.underlying 44) = some (TypeDesc.interface { toList := [("Pad", 108), ("Split", 65), ("Sum", 109)] }) := by kernel_rfl
@[simp] theorem y_P_underlying_47 : (P.underlying 47) = some (TypeDesc.slice 46) := by kernel_rfl
@[simp] theorem y_P_underlying_5 : (P.underlying 5) = some (TypeDesc.int IntKind.u8) := by kernel_rfl
@[simp] theorem y_P_underlying_5xisSome : (P.underlying 5).isSome = true := by kernel_rfl
@[simp] theorem y_P_underlying_70 : (P.underlying 70) = some (TypeDesc.int IntKind.u64) := by kernel_rfl
@[simp] theorem y_P_underlying_70xisSome : (P.underlying 70).isSome = true := by kernel_rfl
@[simp] theorem y_tAgg_24 : tAgg P 24 = some (false, 1) := by kernel_rfl
@[simp] theorem y_tAgg_27 : tAgg P 27 = some (true, 32) := by kernel_rfl
@[simp] theorem y_tAgg_28 : tAgg P 28 = some (false, 1) := by kernel_rfl
@[simp] theorem y_tAgg_29 : tAgg P 29 = some (true, 32) := by kernel_rfl
@[simp] theorem y_tAgg_3 : tAgg P 3 = some (false, 1) := by kernel_rfl
@[simp] theorem y_tAgg_44 : tAgg P 44 = some (false, 1) := by kernel_rfl
@[simp] theorem y_tAgg_46 : tAgg P 46 = some (true, 34) := by kernel_rfl
@[simp] theorem y_tAgg_47 : tAgg P 47 = some (false, 1) := by kernel_rfl
@[simp] theorem y_tAgg_5 : tAgg P 5 = some (false, 1) := by kernel_rfl
@[simp] theorem y_tConcrete_31 : tConcrete P 31 = true := by kernel_rfl
@[simp] theorem y_tElem_22 : tElem P 22 = some (none, false, 1) := by kernel_rfl
@[simp] theorem y_tElem_27 : tElem P 27 = some (some 32, false, 1) := by kernel_rfl
@[simp] theorem y_tElem_29 : tElem P 29 = some (some 32, false, 1) := by kernel_rfl
@[simp] theorem y_tElem_47 : tElem P 47 = some (none, true, 34) := by kernel_rfl
@[simp] theorem y_tField_42x2 : tField P 42 2 = some (2, false, 1) := by kernel_rfl
@[simp] theorem y_tField_42x3 : tField P 42 3 = some (3, false, 1) := by kernel_rfl
@[simp] theorem y_tField_46x0 : tField P 46 0 = some (0, false, 1) := by kernel_rfl
@[simp] theorem y_tField_46x1 : tField P 46 1 = some (1, false, 1) := by kernel_rfl
@[simp] theorem y_tField_46x2 : tField P 46 2 = some (2, true, 32) := by kernel_rfl
@[simp] theorem y_tField_49x0 : tField P 49 0 = some (0, false, 1) := by kernel_rfl
@[simp] theorem y_tField_49x1 : tField P 49 1 = some (1, false, 1) := by kernel_rfl
@[simp] theorem y_tInt_28 : tInt P 28 = some IntKind.u64 := by kernel_rfl
@[simp] theorem y_tInt_3 : tInt P 3 = some IntKind.i64 := by kernel_rfl
@[simp] theorem y_tInt_5 : tInt P 5 = some IntKind.u8 := by kernel_rfl
@[simp] theorem y_tInt_70 : tInt P 70 = some IntKind.u64 := by kernel_rfl
@[simp] theorem y_tIsMap_59 : tIsMap P 59 = true := by kernel_rfl
@[simp] theorem y_tMap_59 : tMap P 59 = some (TypeDesc.int IntKind.u64, Value.bool false) := by kernel_rfl
@[simp] theorem y_tSize_27 : tSize P 27 = some 32 := by kernel_rfl
@[simp] theorem y_tSize_29 : tSize P 29 = some 32 := by kernel_rfl
@[simp] theorem y_tSize_46 : tSize P 46 = some 34 := by kernel_rfl
@[simp] theorem y_tSize_47 : tSize P 47 = some 1 := by kernel_rfl
@[simp] theorem y_tSize_5 : tSize P 5 = some 1 := by kernel_rfl
@[simp] theorem y_tSlice_22 : tSlice P 22 = some (28, 1, 8, ([Value.int IntKind.u64 (0)])) := by kernel_rfl
@[simp] theorem y_tSlice_47 : tSlice P 47 = some (46, 34, 48, ((Value.int IntKind.i64 (0)) :: (Value.int IntKind.u64 (0)) :: rep 32 (Value.int IntKind.u8 (0)))) := by kernel_rfl
@[simp] theorem y_tZero_27 : tZero P 27 = some (rep 32 (Value.int IntKind.u8 (0))) := by kernel_rfl
@[simp] theorem y_tZero_29 : tZero P 29 = some (rep 32 (Value.int IntKind.u8 (0))) := by kernel_rfl
@[simp] theorem y_tZero_31 : tZero P 31 = some ((Value.int IntKind.u8 (0)) :: (Value.int IntKind.u8 (0)) :: (Value.int IntKind.u8 (0)) :: (Value.int IntKind.u8 (0)) :: (Value.int IntKind.u8 (0)) :: (Value.int IntKind.u8 (0)) :: (Value.int IntKind.u8 (0)) :: (Value.int IntKind.u8 (0)) :: (Value.int IntKind.u8 (0)) :: (Value.int IntKind.u8 (0)) :: (Value.int IntKind.u8 (0)) :: (Value.int IntKind.u8 (0)) :: (Value.int IntKind.u8 (0)) :: (Value.int IntKind.u8 (0)) :: (Value.int IntKind.u8 (0)) :: (Value.int IntKind.u8 (0)) :: (Value.int IntKind.u8 (0)) :: (Value.int IntKind.u8 (0)) :: (Value.int IntKind.u8 (0)) :: (Value.int IntKind.u8 (0)) :: (Value.int IntKind.u8 (0)) :: (Value.int IntKind.u8 (0)) :: (Value.int IntKind.u8 (0)) :: (Value.int IntKind.u8 (0)) :: (Value.int IntKind.u8 (0)) :: (Value.int IntKind.u8 (0)) :: (Value.int IntKind.u8 (0)) :: (Value.int IntKind.u8 (0)) :: (Value.int IntKind.u8 (0)) :: (Value.int IntKind.u8 (0)) :: (Value.int IntKind.u8 (0)) :: (Value.int IntKind.u8 (0)) :: (Value.int IntKind.u64 (0)) :: rep 32 (Value.int IntKind.u8 (0))) := by kernel_rfl
@[simp] theorem y_tZero_42 : tZero P 42 = some ([Value.int IntKind.i64 (0), Value.int IntKind.i64 (0), Value.int IntKind.i64 (0), Value.int IntKind.i64 (0)]) := by kernel_rfl
@[simp] theorem y_tZero_46 : tZero P 46 = some ((Value.int IntKind.i64 (0)) :: (Value.int IntKind.u64 (0)) :: rep 32 (Value.int IntKind.u8 (0))) := by kernel_rfl
@[simp] theorem y_tZero_47 : tZero P 47 = some ([Value.slice none 0 0]) := by kernel_rfl
@[simp] theorem y_tZero_49 : tZero P 49 = some ([Value.nilIface, Value.slice none 0 0]) := by kernel_rfl
@[simp] theorem y_tZeros_22 : tZeros P 22 = some false := by kernel_rfl
@[simp] theorem y_tZeros_3 : tZeros P 3 = some true := by kernel_rfl
@[simp] theorem y_tZeros_47 : tZeros P 47 = some false := by kernel_rfl
@[simp] theorem y_len_22 {a : Option Addr} {n c : Nat} {s : St} : lenR P 22 (.slice a n c) s = some (.int .i64 n) := by simp [lenR, lenV]
theorem y_esz_22 : tSize P 28 = some 1 := by kernel_rfl
@[simp] theorem y_sl_22 {n c : Nat} {a : Addr} {lo hi : Option Value} {s : St} (h : okb lo ∧ okb hi ∧ bnd lo 0 ≤ bnd hi n ∧ bnd hi n ≤ n ∧ (c = top + 1 ∨ c < top ∧ n ≤ c)) : slcV P 22 (.slice (some a) n c) lo hi none s = some (.slice (some ⟨a.block, a.off + bnd lo 0 * 1, none⟩) (bnd hi n - bnd lo 0) (capFrom 1 c (bnd lo 0))) := slcV_sl y_P_underlying_22 y_esz_22 h
@[simp] theorem y_sl3x22 {n c : Nat} {a : Addr} {lo : Option Value} {q q' : IntKind} {hi mx : Int} {s : St} (h : okb lo ∧ 0 ≤ hi ∧ bnd lo 0 ≤ hi.toNat ∧ hi ≤ mx ∧ mx.toNat ≤ n ∧ (c = top + 1 ∨ c < top ∧ n ≤ c)) : slcV P 22 (.slice (some a) n c) lo (some (.int q hi)) (some (.int q' mx)) s = some (.slice (some ⟨a.block, a.off + bnd lo 0 * 1, none⟩) (hi.toNat - bnd lo 0) (mx.toNat - bnd lo 0)) := slcV_sl3 y_P_underlying_22 y_esz_22 h
@[simp] theorem y_sn_22 {lo hi mx : Option Value} {s : St} (h : okb lo ∧ okb hi ∧ okb mx ∧ bnd lo 0 ≤ 0 ∧ bnd hi 0 ≤ 0 ∧ bnd mx 0 ≤ 0 ∧ (mx.isSome = true → hi.isSome = true)) : slcV P 22 (.slice none 0 0) lo hi mx s = some (.slice none 0 0) := slcV_sn y_P_underlying_22 y_esz_22 h
@[simp] theorem y_len_47 {a : Option Addr} {n c : Nat} {s : St} : lenR P 47 (.slice a n c) s = some (.int .i64 n) := by simp [lenR, lenV]
theorem y_esz_47 : tSize P 46 = some 34 := by kernel_rfl
@[simp] theorem y_sl_47 {n c : Nat} {a : Addr} {lo hi : Option Value} {s : St} (h : okb lo ∧ okb hi ∧ bnd lo 0 ≤ bnd hi n ∧ bnd hi n ≤ n ∧ (c = top + 34 ∨ c < top ∧ n ≤ c)) : slcV P 47 (.slice (some a) n c) lo hi none s = some (.slice (some ⟨a.block, a.off + bnd lo 0 * 34, none⟩) (bnd hi n - bnd lo 0) (capFrom 34 c (bnd lo 0))) := slcV_sl y_P_underlying_47 y_esz_47 h
@[simp] theorem y_sl3x47 {n c : Nat} {a : Addr} {lo : Option Value} {q q' : IntKind} {hi mx : Int} {s : St} (h : okb lo ∧ 0 ≤ hi ∧ bnd lo 0 ≤ hi.toNat ∧ hi ≤ mx ∧ mx.toNat ≤ n ∧ (c = top + 34 ∨ c < top ∧ n ≤ c)) : slcV P 47 (.slice (some a) n c) lo (some (.int q hi)) (some (.int q' mx)) s = some (.slice (some ⟨a.block, a.off + bnd lo 0 * 34, none⟩) (hi.toNat - bnd lo 0) (mx.toNat - bnd lo 0)) := slcV_sl3 y_P_underlying_47 y_esz_47 h
@[simp] theorem y_sn_47 {lo hi mx : Option Value} {s : St} (h : okb lo ∧ okb hi ∧ okb mx ∧ bnd lo 0 ≤ 0 ∧ bnd hi 0 ≤ 0 ∧ bnd mx 0 ≤ 0 ∧ (mx.isSome = true → hi.isSome = true)) : slcV P 47 (.slice none 0 0) lo hi mx s = some (.slice none 0 0) := slcV_sn y_P_underlying_47 y_esz_47 h
@[simp] theorem y_hasBody_3 : hasBody P 3 = true := by kernel_rfl
@[simp] theorem y_hasBody_4 : hasBody P 4 = true := by kernel_rfl
@[simp] theorem y_hasBody_5 : hasBody P 5 = true := by kernel_rfl
@[simp] theorem y_hasBody_6 : hasBody P 6 = true := by kernel_rfl
@[simp] theorem y_hasBody_7 : hasBody P 7 = true := by kernel_rfl
@[simp] theorem y_hasBody_8 : hasBody P 8 = true := by kernel_rfl
@[simp] theorem y_hasBody_9 : hasBody P 9 = true := by kernel_rfl
@[simp] theorem y_hasBody_10 : hasBody P 10 = true := by kernel_rfl
@[simp] theorem y_hasBody_11 : hasBody P 11 = true := by kernel_rfl
@[simp] theorem y_hasBody_12 : hasBody P 12 = true := by kernel_rfl
@[simp] theorem y_hasBody_13 : hasBody P 13 = true := by kernel_rfl
@[simp] theorem y_hasBody_14 : hasBody P 14 = true := by kernel_rfl
@[simp] theorem y_hasBody_15 : hasBody P 15 = true := by kernel_rfl
@[simp] theorem y_hasBody_16 : hasBody P 16 = true := by kernel_rfl
@[simp] theorem y_hasBody_17 : hasBody P 17 = true := by kernel_rfl
@[simp] theorem y_hasBody_19 : hasBody P 19 = true := by kernel_rfl
@[simp] theorem y_hasBody_20 : hasBody P 20 = true := by kernel_rfl
@[simp] theorem y_hasBody_21 : hasBody P 21 = true := by kernel_rfl
@[simp] theorem y_hasBody_22 : hasBody P 22 = true := by kernel_rfl
@[simp] theorem y_hasBody_23 : hasBody P 23 = true := by kernel_rfl
@[simp] theorem y_hasBody_24 : hasBody P 24 = true := by kernel_rfl
@[simp] theorem y_hasBody_25 : hasBody P 25 = true := by kernel_rfl
@[simp] theorem y_hasBody_26 : hasBody P 26 = true := by kernel_rfl
@[simp] theorem y_hasBody_27 : hasBody P 27 = true := by kernel_rfl
@[simp] theorem y_hasBody_28 : hasBody P 28 = true := by kernel_rfl
@[simp] theorem y_hasBody_29 : hasBody P 29 = true := by kernel_rfl
@[simp] theorem y_hasBody_32 : hasBody P 32 = true := by kernel_rfl
@[simp] theorem y_hasBody_70 : hasBody P 70 = true := by kernel_rfl
@[simp] theorem y_hasBody_71 : hasBody P 71 = true := by kernel_rfl
@[simp] theorem y_hasBody_72 : hasBody P 72 = true := by kernel_rfl
@[simp] theorem y_hasBody_18 : hasBody P 18 = true := by kernel_rfl

end Go.Zz
