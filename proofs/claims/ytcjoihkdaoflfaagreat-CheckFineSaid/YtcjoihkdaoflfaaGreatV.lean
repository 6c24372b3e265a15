/- What the program's types come to, in the calculus. Printed by a program. -/
import Derived.Test.YtcjoihkdaoflfaaGreatU
set_option linter.all false
namespace Go.Zz
open Go

@[simp] theorem y_P_underlying_167 : (P.underlying 167) = some (TypeDesc.int IntKind.u64) := by kernel_rfl
@[simp] theorem y_P_underlying_167xisSome : (P.underlying 167).isSome = true := by kernel_rfl
@[simp] theorem y_P_underlying_27 : (P.underlying 27) = some (TypeDesc.pointer 79) := by kernel_rfl
@[simp] theorem y_P_underlying_3 : (P.underlying 3) = some (TypeDesc.int IntKind.i64) := by kernel_rfl
@[simp] theorem y_P_underlying_3xisSome : (P.underlying 3).isSome = true := by kernel_rfl
@[simp] theorem y_P_underlying_30 : (P.underlying 30) = some (TypeDesc.array 32 5) := by kernel_rfl
@[simp] theorem y_P_underlying_31 : (P.underlying 31) = some (TypeDesc.slice 142) := by kernel_rfl
@[simp] theorem y_P_underlying_35 : (P.underlying 35) = some (TypeDesc.pointer 86) := by kernel_rfl
@[simp] theorem y_P_underlying_37 : (P.underlying 37) = some (TypeDesc.int IntKind.u64) := by kernel_rfl
@[simp] theorem y_P_underlying_37xisSome : (P.underlying 37).isSome = true := by kernel_rfl
@[simp] theorem y_P_underlying_4 : (P.underlying 4) = some TypeDesc.bool := by kernel_rfl
@[simp] theorem y_P_underlying_43 : (P.underlying 43) = some (TypeDesc.slice 37) := by kernel_rfl
@[simp] theorem y_P_underlying_45 : (P.underlying 45) = some (TypeDesc.pointer 107) := by kernel_rfl
@[simp] theorem y_P_underlying_5xisSome : (P.underlying 5).isSome = true := by kernel_rfl
@[simp] theorem y_P_underlying_58 : (P.underlying 58) = some (TypeDesc.int IntKind.i64) := by kernel_rfl
@[simp] theorem y_P_underlying_81 : (P.underlying 81) = some (TypeDesc.interface { toList := [("Pad", 344), ("Split", 162), ("Sum", 380)] }) := by kernel_rfl
@[simp] theorem y_P_underlying_84 : (P.underlying 84) = some (TypeDesc.slice 83) := by kernel_rfl
@[simp] theorem y_tAgg_142 : tAgg P 142 = some (true, 3) := by kernel_rfl
@[simp] theorem y_tAgg_146 : tAgg P 146 = some (true, 2) := by kernel_rfl
@[simp] theorem y_tAgg_23 : tAgg P 23 = some (true, 4) := by kernel_rfl
@[simp] theorem y_tAgg_27 : tAgg P 27 = some (false, 1) := by kernel_rfl
@[simp] theorem y_tAgg_3 : tAgg P 3 = some (false, 1) := by kernel_rfl
@[simp] theorem y_tAgg_30 : tAgg P 30 = some (true, 32) := by kernel_rfl
@[simp] theorem y_tAgg_31 : tAgg P 31 = some (false, 1) := by kernel_rfl
@[simp] theorem y_tAgg_33 : tAgg P 33 = some (true, 38) := by kernel_rfl
@[simp] theorem y_tAgg_35 : tAgg P 35 = some (false, 1) := by kernel_rfl
@[simp] theorem y_tAgg_37 : tAgg P 37 = some (false, 1) := by kernel_rfl
@[simp] theorem y_tAgg_38 : tAgg P 38 = some (true, 32) := by kernel_rfl
@[simp] theorem y_tAgg_4 : tAgg P 4 = some (false, 1) := by kernel_rfl
@[simp] theorem y_tAgg_45 : tAgg P 45 = some (false, 1) := by kernel_rfl
@[simp] theorem y_tAgg_5 : tAgg P 5 = some (false, 1) := by kernel_rfl
@[simp] theorem y_tAgg_66 : tAgg P 66 = some (false, 1) := by kernel_rfl
@[simp] theorem y_tAgg_68 : tAgg P 68 = some (true, 3) := by kernel_rfl
@[simp] theorem y_tAgg_81 : tAgg P 81 = some (false, 1) := by kernel_rfl
@[simp] theorem y_tAgg_83 : tAgg P 83 = some (true, 34) := by kernel_rfl
@[simp] theorem y_tAgg_84 : tAgg P 84 = some (false, 1) := by kernel_rfl
@[simp] theorem y_tConcrete_40 : tConcrete P 40 = true := by kernel_rfl
@[simp] theorem y_tElem_30 : tElem P 30 = some (some 32, false, 1) := by kernel_rfl
@[simp] theorem y_tElem_31 : tElem P 31 = some (none, true, 3) := by kernel_rfl
@[simp] theorem y_tElem_38 : tElem P 38 = some (some 32, false, 1) := by kernel_rfl
@[simp] theorem y_tElem_43 : tElem P 43 = some (none, false, 1) := by kernel_rfl
@[simp] theorem y_tElem_84 : tElem P 84 = some (none, true, 34) := by kernel_rfl
@[simp] theorem y_tField_142x0 : tField P 142 0 = some (0, false, 1) := by kernel_rfl
@[simp] theorem y_tField_142x2 : tField P 142 2 = some (2, false, 1) := by kernel_rfl
@[simp] theorem y_tField_146x0 : tField P 146 0 = some (0, false, 1) := by kernel_rfl
@[simp] theorem y_tField_23x2 : tField P 23 2 = some (2, false, 1) := by kernel_rfl
@[simp] theorem y_tField_23x3 : tField P 23 3 = some (3, false, 1) := by kernel_rfl
@[simp] theorem y_tField_33x2 : tField P 33 2 = some (2, false, 1) := by kernel_rfl
@[simp] theorem y_tField_33x3 : tField P 33 3 = some (3, false, 1) := by kernel_rfl
@[simp] theorem y_tField_33x5 : tField P 33 5 = some (36, false, 1) := by kernel_rfl
@[simp] theorem y_tField_68x0 : tField P 68 0 = some (0, false, 1) := by kernel_rfl
@[simp] theorem y_tField_68x1 : tField P 68 1 = some (1, false, 1) := by kernel_rfl
@[simp] theorem y_tField_68x2 : tField P 68 2 = some (2, false, 1) := by kernel_rfl
@[simp] theorem y_tField_83x0 : tField P 83 0 = some (0, false, 1) := by kernel_rfl
@[simp] theorem y_tField_83x1 : tField P 83 1 = some (1, false, 1) := by kernel_rfl
@[simp] theorem y_tField_83x2 : tField P 83 2 = some (2, true, 32) := by kernel_rfl
@[simp] theorem y_tField_86x0 : tField P 86 0 = some (0, false, 1) := by kernel_rfl
@[simp] theorem y_tField_86x1 : tField P 86 1 = some (1, false, 1) := by kernel_rfl
@[simp] theorem y_tInt_167 : tInt P 167 = some IntKind.u64 := by kernel_rfl
@[simp] theorem y_tInt_3 : tInt P 3 = some IntKind.i64 := by kernel_rfl
@[simp] theorem y_tInt_37 : tInt P 37 = some IntKind.u64 := by kernel_rfl
@[simp] theorem y_tInt_5 : tInt P 5 = some IntKind.u8 := by kernel_rfl
@[simp] theorem y_tIsMap_48 : tIsMap P 48 = true := by kernel_rfl
@[simp] theorem y_tMap_48 : tMap P 48 = some (TypeDesc.int IntKind.u64, Value.bool false) := by kernel_rfl
@[simp] theorem y_tSize_142 : tSize P 142 = some 3 := by kernel_rfl
@[simp] theorem y_tSize_144 : tSize P 144 = some 1 := by kernel_rfl
@[simp] theorem y_tSize_146 : tSize P 146 = some 2 := by kernel_rfl
@[simp] theorem y_tSize_23 : tSize P 23 = some 4 := by kernel_rfl
@[simp] theorem y_tSize_3 : tSize P 3 = some 1 := by kernel_rfl
@[simp] theorem y_tSize_30 : tSize P 30 = some 32 := by kernel_rfl
@[simp] theorem y_tSize_33 : tSize P 33 = some 38 := by kernel_rfl
@[simp] theorem y_tSize_38 : tSize P 38 = some 32 := by kernel_rfl
@[simp] theorem y_tSize_4 : tSize P 4 = some 1 := by kernel_rfl
@[simp] theorem y_tSize_5 : tSize P 5 = some 1 := by kernel_rfl
@[simp] theorem y_tSize_66 : tSize P 66 = some 1 := by kernel_rfl
@[simp] theorem y_tSize_68 : tSize P 68 = some 3 := by kernel_rfl
@[simp] theorem y_tSize_83 : tSize P 83 = some 34 := by kernel_rfl
@[simp] theorem y_tSize_84 : tSize P 84 = some 1 := by kernel_rfl
@[simp] theorem y_tSlice_43 : tSlice P 43 = some (37, 1, 8, ([Value.int IntKind.u64 (0)])) := by kernel_rfl
@[simp] theorem y_tSlice_66 : tSlice P 66 = some (146, 2, 16, ([Value.nilFunc, Value.int IntKind.i64 (0)])) := by kernel_rfl
@[simp] theorem y_tSlice_84 : tSlice P 84 = some (83, 34, 48, ((Value.int IntKind.i64 (0)) :: (Value.int IntKind.u64 (0)) :: rep 32 (Value.int IntKind.u8 (0)))) := by kernel_rfl
@[simp] theorem y_tZero_142 : tZero P 142 = some ([Value.int IntKind.i64 (0), Value.int IntKind.i64 (0), Value.int IntKind.i64 (0)]) := by kernel_rfl
@[simp] theorem y_tZero_146 : tZero P 146 = some ([Value.nilFunc, Value.int IntKind.i64 (0)]) := by kernel_rfl
@[simp] theorem y_tZero_149 : tZero P 149 = some ([Value.slice none 0 0]) := by kernel_rfl
@[simp] theorem y_tZero_152 : tZero P 152 = some ([Value.slice none 0 0]) := by kernel_rfl
@[simp] theorem y_tZero_157 : tZero P 157 = some ([Value.bool false, Value.int IntKind.i64 (0), Value.int IntKind.u64 (0), Value.int IntKind.u64 (0), Value.bool false, Value.int IntKind.i64 (0), Value.int IntKind.u64 (0), Value.int IntKind.u64 (0), Value.bool false, Value.int IntKind.i64 (0), Value.int IntKind.u64 (0), Value.int IntKind.u64 (0), Value.bool false, Value.int IntKind.i64 (0), Value.int IntKind.u64 (0), Value.int IntKind.u64 (0), Value.bool false, Value.int IntKind.i64 (0), Value.int IntKind.u64 (0), Value.int IntKind.u64 (0), Value.bool false, Value.int IntKind.i64 (0), Value.int IntKind.u64 (0), Value.int IntKind.u64 (0), Value.bool false, Value.int IntKind.i64 (0), Value.int IntKind.u64 (0), Value.int IntKind.u64 (0), Value.bool false, Value.int IntKind.i64 (0), Value.int IntKind.u64 (0), Value.int IntKind.u64 (0), Value.bool false, Value.int IntKind.i64 (0), Value.int IntKind.u64 (0), Value.int IntKind.u64 (0), Value.bool false, Value.int IntKind.i64 (0), Value.int IntKind.u64 (0), Value.int IntKind.u64 (0), Value.bool false, Value.int IntKind.i64 (0), Value.int IntKind.u64 (0), Value.int IntKind.u64 (0), Value.bool false, Value.int IntKind.i64 (0), Value.int IntKind.u64 (0), Value.int IntKind.u64 (0), Value.bool false, Value.int IntKind.i64 (0), Value.int IntKind.u64 (0), Value.int IntKind.u64 (0), Value.bool false, Value.int IntKind.i64 (0), Value.int IntKind.u64 (0), Value.int IntKind.u64 (0), Value.bool false, Value.int IntKind.i64 (0), Value.int IntKind.u64 (0), Value.int IntKind.u64 (0), Value.bool false, Value.int IntKind.i64 (0), Value.int IntKind.u64 (0), Value.int IntKind.u64 (0)]) := by kernel_rfl
@[simp] theorem y_tZero_23 : tZero P 23 = some ([Value.int IntKind.i64 (0), Value.int IntKind.i64 (0), Value.int IntKind.i64 (0), Value.int IntKind.i64 (0)]) := by kernel_rfl
@[simp] theorem y_tZero_3 : tZero P 3 = some ([Value.int IntKind.i64 (0)]) := by kernel_rfl
@[simp] theorem y_tZero_30 : tZero P 30 = some (rep 32 (Value.int IntKind.u8 (0))) := by kernel_rfl
@[simp] theorem y_tZero_33 : tZero P 33 = some ([Value.int IntKind.i64 (0), Value.int IntKind.i64 (0), Value.int IntKind.i64 (0), Value.int IntKind.i64 (0), Value.int IntKind.u8 (0), Value.int IntKind.u8 (0), Value.int IntKind.u8 (0), Value.int IntKind.u8 (0), Value.int IntKind.u8 (0), Value.int IntKind.u8 (0), Value.int IntKind.u8 (0), Value.int IntKind.u8 (0), Value.int IntKind.u8 (0), Value.int IntKind.u8 (0), Value.int IntKind.u8 (0), Value.int IntKind.u8 (0), Value.int IntKind.u8 (0), Value.int IntKind.u8 (0), Value.int IntKind.u8 (0), Value.int IntKind.u8 (0), Value.int IntKind.u8 (0), Value.int IntKind.u8 (0), Value.int IntKind.u8 (0), Value.int IntKind.u8 (0), Value.int IntKind.u8 (0), Value.int IntKind.u8 (0), Value.int IntKind.u8 (0), Value.int IntKind.u8 (0), Value.int IntKind.u8 (0), Value.int IntKind.u8 (0), Value.int IntKind.u8 (0), Value.int IntKind.u8 (0), Value.int IntKind.u8 (0), Value.int IntKind.u8 (0), Value.int IntKind.u8 (0), Value.int IntKind.u8 (0), Value.slice none 0 0, Value.bool false]) := by kernel_rfl
@[simp] theorem y_tZero_38 : tZero P 38 = some (rep 32 (Value.int IntKind.u8 (0))) := by kernel_rfl
@[simp] theorem y_tZero_40 : tZero P 40 = some ((Value.int IntKind.u8 (0)) :: (Value.int IntKind.u8 (0)) :: (Value.int IntKind.u8 (0)) :: (Value.int IntKind.u8 (0)) :: (Value.int IntKind.u8 (0)) :: (Value.int IntKind.u8 (0)) :: (Value.int IntKind.u8 (0)) :: (Value.int IntKind.u8 (0)) :: (Value.int IntKind.u8 (0)) :: (Value.int IntKind.u8 (0)) :: (Value.int IntKind.u8 (0)) :: (Value.int IntKind.u8 (0)) :: (Value.int IntKind.u8 (0)) :: (Value.int IntKind.u8 (0)) :: (Value.int IntKind.u8 (0)) :: (Value.int IntKind.u8 (0)) :: (Value.int IntKind.u8 (0)) :: (Value.int IntKind.u8 (0)) :: (Value.int IntKind.u8 (0)) :: (Value.int IntKind.u8 (0)) :: (Value.int IntKind.u8 (0)) :: (Value.int IntKind.u8 (0)) :: (Value.int IntKind.u8 (0)) :: (Value.int IntKind.u8 (0)) :: (Value.int IntKind.u8 (0)) :: (Value.int IntKind.u8 (0)) :: (Value.int IntKind.u8 (0)) :: (Value.int IntKind.u8 (0)) :: (Value.int IntKind.u8 (0)) :: (Value.int IntKind.u8 (0)) :: (Value.int IntKind.u8 (0)) :: (Value.int IntKind.u8 (0)) :: (Value.int IntKind.u64 (0)) :: rep 32 (Value.int IntKind.u8 (0))) := by kernel_rfl
@[simp] theorem y_tZero_68 : tZero P 68 = some ([Value.slice none 0 0, Value.int IntKind.i64 (0), Value.bool false]) := by kernel_rfl
@[simp] theorem y_tZero_76 : tZero P 76 = some ([Value.pointer none, Value.slice none 0 0, Value.int IntKind.i64 (0), Value.bool false, Value.pointer none, Value.pointer none]) := by kernel_rfl
@[simp] theorem y_tZero_79 : tZero P 79 = some ([Value.int IntKind.i64 (0), Value.int IntKind.i64 (0), Value.int IntKind.i64 (0), Value.int IntKind.u64 (0), Value.slice none 0 0, Value.pointer none, Value.slice none 0 0, Value.int IntKind.i64 (0), Value.bool false, Value.pointer none, Value.pointer none]) := by kernel_rfl
@[simp] theorem y_tZero_83 : tZero P 83 = some ((Value.int IntKind.i64 (0)) :: (Value.int IntKind.u64 (0)) :: rep 32 (Value.int IntKind.u8 (0))) := by kernel_rfl
@[simp] theorem y_tZero_84 : tZero P 84 = some ([Value.slice none 0 0]) := by kernel_rfl
@[simp] theorem y_tZero_86 : tZero P 86 = some ([Value.nilIface, Value.slice none 0 0]) := by kernel_rfl
@[simp] theorem y_tZeros_3 : tZeros P 3 = some true := by kernel_rfl
@[simp] theorem y_tZeros_43 : tZeros P 43 = some false := by kernel_rfl
@[simp] theorem y_tZeros_66 : tZeros P 66 = some false := by kernel_rfl
@[simp] theorem y_tZeros_84 : tZeros P 84 = some false := by kernel_rfl
@[simp] theorem y_len_31 {a : Option Addr} {n c : Nat} {s : St} : lenR P 31 (.slice a n c) s = some (.int .i64 n) := by simp [lenR, lenV]
@[simp] theorem y_len_43 {a : Option Addr} {n c : Nat} {s : St} : lenR P 43 (.slice a n c) s = some (.int .i64 n) := by simp [lenR, lenV]
theorem y_esz_43 : tSize P 37 = some 1 := by kernel_rfl
@[simp] theorem y_sl_43 {n c : Nat} {a : Addr} {lo hi : Option Value} {s : St} (h : okb lo ∧ okb hi ∧ bnd lo 0 ≤ bnd hi n ∧ bnd hi n ≤ n ∧ (c = top + 1 ∨ c < top ∧ n ≤ c)) : slcV P 43 (.slice (some a) n c) lo hi none s = some (.slice (some ⟨a.block, a.off + bnd lo 0 * 1, none⟩) (bnd hi n - bnd lo 0) (capFrom 1 c (bnd lo 0))) := slcV_sl y_P_underlying_43 y_esz_43 h
@[simp] theorem y_sl3x43 {n c : Nat} {a : Addr} {lo : Option Value} {q q' : IntKind} {hi mx : Int} {s : St} (h : okb lo ∧ 0 ≤ hi ∧ bnd lo 0 ≤ hi.toNat ∧ hi ≤ mx ∧ mx.toNat ≤ n ∧ (c = top + 1 ∨ c < top ∧ n ≤ c)) : slcV P 43 (.slice (some a) n c) lo (some (.int q hi)) (some (.int q' mx)) s = some (.slice (some ⟨a.block, a.off + bnd lo 0 * 1, none⟩) (hi.toNat - bnd lo 0) (mx.toNat - bnd lo 0)) := slcV_sl3 y_P_underlying_43 y_esz_43 h
@[simp] theorem y_sn_43 {lo hi mx : Option Value} {s : St} (h : okb lo ∧ okb hi ∧ okb mx ∧ bnd lo 0 ≤ 0 ∧ bnd hi 0 ≤ 0 ∧ bnd mx 0 ≤ 0 ∧ (mx.isSome = true → hi.isSome = true)) : slcV P 43 (.slice none 0 0) lo hi mx s = some (.slice none 0 0) := slcV_sn y_P_underlying_43 y_esz_43 h
@[simp] theorem y_len_84 {a : Option Addr} {n c : Nat} {s : St} : lenR P 84 (.slice a n c) s = some (.int .i64 n) := by simp [lenR, lenV]
theorem y_esz_84 : tSize P 83 = some 34 := by kernel_rfl
@[simp] theorem y_sl_84 {n c : Nat} {a : Addr} {lo hi : Option Value} {s : St} (h : okb lo ∧ okb hi ∧ bnd lo 0 ≤ bnd hi n ∧ bnd hi n ≤ n ∧ (c = top + 34 ∨ c < top ∧ n ≤ c)) : slcV P 84 (.slice (some a) n c) lo hi none s = some (.slice (some ⟨a.block, a.off + bnd lo 0 * 34, none⟩) (bnd hi n - bnd lo 0) (capFrom 34 c (bnd lo 0))) := slcV_sl y_P_underlying_84 y_esz_84 h
@[simp] theorem y_sl3x84 {n c : Nat} {a : Addr} {lo : Option Value} {q q' : IntKind} {hi mx : Int} {s : St} (h : okb lo ∧ 0 ≤ hi ∧ bnd lo 0 ≤ hi.toNat ∧ hi ≤ mx ∧ mx.toNat ≤ n ∧ (c = top + 34 ∨ c < top ∧ n ≤ c)) : slcV P 84 (.slice (some a) n c) lo (some (.int q hi)) (some (.int q' mx)) s = some (.slice (some ⟨a.block, a.off + bnd lo 0 * 34, none⟩) (hi.toNat - bnd lo 0) (mx.toNat - bnd lo 0)) := slcV_sl3 y_P_underlying_84 y_esz_84 h
@[simp] theorem y_sn_84 {lo hi mx : Option Value} {s : St} (h : okb lo ∧ okb hi ∧ okb mx ∧ bnd lo 0 ≤ 0 ∧ bnd hi 0 ≤ 0 ∧ bnd mx 0 ≤ 0 ∧ (mx.isSome = true → hi.isSome = true)) : slcV P 84 (.slice none 0 0) lo hi mx s = some (.slice none 0 0) := slcV_sn y_P_underlying_84 y_esz_84 h
@[simp] theorem y_hasBody_3 : hasBody P 3 = true := by kernel_rfl
@[simp] theorem y_hasBody_4 : hasBody P 4 = true := by kernel_rfl
@[simp] theorem y_hasBody_5 : hasBody P 5 = true := by kernel_rfl
@[simp] theorem y_hasBody_6 : hasBody P 6 = true := by kernel_rfl
@[simp] theorem y_hasBody_7 : hasBody P 7 = true := by kernel_rfl
@[simp] theorem y_hasBody_8 : hasBody P 8 = true := by kernel_rfl
@[simp] theorem y_hasBody_9 : hasBody P 9 = true := by kernel_rfl
@[simp] theorem y_hasBody_10 : hasBody P 10 = true := by kernel_rfl
@[simp] theorem y_hasBody_11 : hasBody P 11 = true := by kernel_rfl
@[simp] theorem y_hasBody_12 : hasBody P 12 = true := by kernel_rfl
@[simp] theorem y_hasBody_14 : hasBody P 14 = true := by kernel_rfl
@[simp] theorem y_hasBody_27 : hasBody P 27 = true := by kernel_rfl
@[simp] theorem y_hasBody_28 : hasBody P 28 = true := by kernel_rfl
@[simp] theorem y_hasBody_29 : hasBody P 29 = true := by kernel_rfl
@[simp] theorem y_hasBody_30 : hasBody P 30 = true := by kernel_rfl
@[simp] theorem y_hasBody_31 : hasBody P 31 = true := by kernel_rfl
@[simp] theorem y_hasBody_32 : hasBody P 32 = true := by kernel_rfl
@[simp] theorem y_hasBody_33 : hasBody P 33 = true := by kernel_rfl
@[simp] theorem y_hasBody_35 : hasBody P 35 = true := by kernel_rfl
@[simp] theorem y_hasBody_36 : hasBody P 36 = true := by kernel_rfl
@[simp] theorem y_hasBody_37 : hasBody P 37 = true := by kernel_rfl
@[simp] theorem y_hasBody_38 : hasBody P 38 = true := by kernel_rfl
@[simp] theorem y_hasBody_39 : hasBody P 39 = true := by kernel_rfl
@[simp] theorem y_hasBody_40 : hasBody P 40 = true := by kernel_rfl
@[simp] theorem y_hasBody_41 : hasBody P 41 = true := by kernel_rfl
@[simp] theorem y_hasBody_69 : hasBody P 69 = true := by kernel_rfl
@[simp] theorem y_hasBody_70 : hasBody P 70 = true := by kernel_rfl
@[simp] theorem y_hasBody_71 : hasBody P 71 = true := by kernel_rfl
@[simp] theorem y_hasBody_72 : hasBody P 72 = true := by kernel_rfl
@[simp] theorem y_hasBody_75 : hasBody P 75 = true := by kernel_rfl
@[simp] theorem y_hasBody_277 : hasBody P 277 = true := by kernel_rfl
@[simp] theorem y_hasBody_279 : hasBody P 279 = true := by kernel_rfl
@[simp] theorem y_hasBody_280 : hasBody P 280 = true := by kernel_rfl
@[simp] theorem y_hasBody_34 : hasBody P 34 = true := by kernel_rfl

end Go.Zz
