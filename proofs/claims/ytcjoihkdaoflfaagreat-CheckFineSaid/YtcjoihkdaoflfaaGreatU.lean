/- Shallow forms of the functions, each tied to its code by computation. Printed by a program. -/
import Derived.Test.YtcjoihkdaoflfaaGreatT
import Derived.Test.YtcjoihkdaoflfaaGreatProg
import Derived.KernelRfl
set_option linter.all false
set_option linter.unusedVariables false
set_option maxRecDepth 20000
namespace Go.Zz
open Go

noncomputable abbrev P : Program := Go.Proofs.Tryz.prog

def h3 : Hint := ⟨28, lkH [] [], lkH [(3, ⟨[0, 1, 0, 4, 12, 31, 63, 127, 255, 511, 1023, 2047, 4095, 8191, 16383, 4095, 65535, 131071, 262143, 524287, 524287, 2097151, 4194303, 8388607], [1, 12, 13, 14, 19], [0, 1, 1, 1, 1, 1, 1, 1, 1, 1, 1, 1, 2, 3, 4, 4, 4, 4, 4, 5, 5, 5, 5, 5], [0, 0, 0, 0, 0, 1, 1, 1, 1, 1, 1, 1, 1, 2, 3, 1, 4, 4, 4, 4, 4, 5, 5, 5]⟩)] ⟨[], [], [], []⟩⟩
def h4 : Hint := ⟨22, lkH [] [], lkH [] ⟨[], [], [], []⟩⟩
def h5 : Hint := ⟨11, lkH [] [], lkH [] ⟨[], [], [], []⟩⟩
def h6 : Hint := ⟨142, lkH [(2, [14, 62, 63, 64, 65, 66, 67, 68, 73, 74, 75, 76, 77, 78]), (0, [])] [], lkH [(5, ⟨[0, 1, 3, 0, 15, 31, 63, 127], [1, 2, 4, 5], [0, 1, 2, 2, 3, 4, 4, 4], [0, 0, 1, 0, 2, 3, 4, 4]⟩)] ⟨[], [], [], []⟩⟩
def h7 : Hint := ⟨44, lkH [] [], lkH [(4, ⟨[0, 1, 0, 4, 0, 0, 16, 80, 240, 511, 1023, 2047], [4, 6, 7, 10], [3, 3, 3, 3, 1, 3, 2, 3, 3, 3, 4, 4], [0, 0, 0, 0, 0, 0, 1, 2, 3, 3, 3, 4]⟩)] ⟨[], [], [], []⟩⟩
def h8 : Hint := ⟨9, lkH [] [], lkH [] ⟨[], [], [], []⟩⟩
def h9 : Hint := ⟨13, lkH [] [], lkH [] ⟨[], [], [], []⟩⟩
def h10 : Hint := ⟨43, lkH [] [], lkH [(7, ⟨[0, 0, 2, 6, 14, 0, 0, 64, 254, 0, 0, 2046, 4095, 8191, 16383], [8, 11, 14], [2, 0, 0, 0, 0, 0, 0, 0, 1, 1, 1, 2, 2, 2, 3], [0, 0, 0, 0, 0, 0, 0, 0, 0, 0, 0, 1, 2, 2, 2]⟩)] ⟨[], [], [], []⟩⟩
def h11 : Hint := ⟨26, lkH [(0, [2, 3, 6, 7, 8, 9, 10, 11, 12, 13, 14, 15, 16, 17, 18, 19, 20, 21, 22, 23, 24, 25])] [], lkH [(6, ⟨[0, 0, 3, 7, 0, 0, 48, 112, 255], [], [0, 0, 0, 0, 0, 0, 0, 0, 0], [0, 0, 0, 0, 0, 0, 0, 0, 0]⟩)] ⟨[], [], [], []⟩⟩
def h12 : Hint := ⟨52, lkH [(0, [1, 2, 4, 5, 6, 7, 8, 13, 14, 15, 16, 17, 18, 19, 20, 21, 22, 23, 24, 25, 26, 27, 28, 29, 30, 31, 32, 33, 34, 35, 36, 37, 38, 39, 40, 41, 42, 43, 44, 45, 46, 47, 48, 49, 50, 51])] [], lkH [] ⟨[], [], [], []⟩⟩
def h14 : Hint := ⟨17, lkH [(0, [0, 1, 2, 4, 5, 6, 10, 11, 12, 13, 14, 15, 16])] [], lkH [] ⟨[], [], [], []⟩⟩
def h27 : Hint := ⟨60, lkH [(0, [0, 1, 5, 6, 7, 8, 9, 10, 11, 15, 16, 17, 18, 19, 20, 21, 22, 23, 24, 25, 26, 27, 28, 29, 30, 31, 32, 33, 34, 35, 36, 37, 38, 39, 40, 41, 42, 43, 44, 45, 46, 47, 48, 49, 50, 51, 52, 53, 54, 55, 56, 57, 58, 59])] [], lkH [] ⟨[], [], [], []⟩⟩
def h28 : Hint := ⟨3, lkH [] [], lkH [] ⟨[], [], [], []⟩⟩
def h29 : Hint := ⟨3, lkH [] [], lkH [] ⟨[], [], [], []⟩⟩
def h30 : Hint := ⟨3, lkH [] [], lkH [] ⟨[], [], [], []⟩⟩
def h31 : Hint := ⟨54, lkH [] [], lkH [(6, ⟨[0, 1, 3, 7, 7, 23, 55, 119, 7, 263, 1015, 2039, 4087, 8191, 7, 16391, 49159, 114695, 7, 262151, 1032199, 2080775, 4177927, 8372231, 16777215, 33554431], [23], [0, 0, 0, 1, 1, 1, 1, 1, 1, 1, 1, 1, 1, 1, 0, 0, 0, 0, 0, 0, 0, 0, 0, 1, 1, 1], [0, 0, 0, 0, 0, 0, 0, 0, 0, 0, 0, 0, 0, 0, 0, 0, 0, 0, 0, 0, 0, 0, 0, 0, 1, 1]⟩)] ⟨[], [], [], []⟩⟩
def h32 : Hint := ⟨34, lkH [(0, [0, 1, 4, 6, 7, 10, 11, 12, 13, 14, 15, 16, 17, 18, 19, 20, 21, 22, 23, 24, 25, 26, 27, 28, 29, 30, 31, 32, 33])] [], lkH [] ⟨[], [], [], []⟩⟩
def h33 : Hint := ⟨7, lkH [] [], lkH [] ⟨[], [], [], []⟩⟩
def h35 : Hint := ⟨10, lkH [] [], lkH [] ⟨[], [], [], []⟩⟩
def h36 : Hint := ⟨20, lkH [] [], lkH [] ⟨[], [], [], []⟩⟩
def h37 : Hint := ⟨95, lkH [] [], lkH [(11, ⟨[0, 0, 0, 6, 15, 0, 0, 96, 255], [8], [0, 0, 0, 0, 0, 0, 0, 0, 1], [0, 0, 0, 0, 0, 0, 0, 0, 0]⟩), (15, ⟨[0, 0, 0, 6, 15, 0, 0, 96, 255], [8], [0, 0, 0, 0, 0, 0, 0, 0, 1], [0, 0, 0, 0, 0, 0, 0, 0, 0]⟩)] ⟨[], [], [], []⟩⟩
def h38 : Hint := ⟨33, lkH [] [], lkH [(5, ⟨[0, 0, 3, 0, 0, 24, 63, 127], [6], [0, 0, 0, 0, 0, 0, 1, 1], [0, 0, 0, 0, 0, 0, 0, 1]⟩)] ⟨[], [], [], []⟩⟩
def h39 : Hint := ⟨14, lkH [] [], lkH [] ⟨[], [], [], []⟩⟩
def h40 : Hint := ⟨5, lkH [] [], lkH [] ⟨[], [], [], []⟩⟩
def h41 : Hint := ⟨6, lkH [] [], lkH [] ⟨[], [], [], []⟩⟩
def h69 : Hint := ⟨7, lkH [] [], lkH [] ⟨[], [], [], []⟩⟩
def h70 : Hint := ⟨49, lkH [(0, [3, 4, 5, 6, 7, 11, 12, 13, 14, 15, 16, 17, 18, 19, 20, 21, 22, 23, 24, 25, 26, 27, 28, 29, 30, 31, 32, 33, 34, 35, 36, 37, 38, 39, 40, 41, 42, 43, 44, 45, 46, 47, 48])] [], lkH [] ⟨[], [], [], []⟩⟩
def h71 : Hint := ⟨9, lkH [] [], lkH [] ⟨[], [], [], []⟩⟩
def h72 : Hint := ⟨36, lkH [] [], lkH [(1, ⟨[0, 1, 3, 7, 0, 16, 63, 127, 255, 255, 0, 0, 3583, 8191], [6, 12, 13], [0, 0, 0, 0, 0, 0, 1, 1, 1, 2, 1, 1, 2, 3], [0, 0, 0, 0, 0, 0, 0, 1, 1, 1, 1, 1, 1, 2]⟩), (2, ⟨[0, 1, 3, 0, 8, 0, 63, 0, 128, 384, 0, 1024, 0, 4096, 12288, 28672, 64512, 0, 262016, 61567, 1048575], [15, 19, 20], [1, 1, 1, 1, 1, 1, 1, 2, 2, 2, 2, 2, 0, 0, 0, 1, 2, 2, 2, 2, 3], [0, 0, 0, 0, 0, 0, 0, 0, 0, 0, 0, 0, 0, 0, 0, 0, 1, 0, 1, 1, 2]⟩)] ⟨[], [], [], []⟩⟩
def h75 : Hint := ⟨6, lkH [] [], lkH [] ⟨[], [], [], []⟩⟩
def h277 : Hint := ⟨10, lkH [] [], lkH [] ⟨[], [], [], []⟩⟩
def h279 : Hint := ⟨42, lkH [(0, [0, 3, 8, 9, 10, 11, 12, 13, 14, 15, 16, 17, 18, 19, 20, 21, 22, 23, 24, 25, 26, 27, 28, 29, 30, 31, 32, 33, 34, 35, 36, 37, 38, 39, 40, 41])] [], lkH [] ⟨[], [], [], []⟩⟩
def h280 : Hint := ⟨12, lkH [] [], lkH [(3, ⟨[0, 0, 1, 7], [2, 3], [0, 1, 1, 2], [0, 0, 0, 1]⟩)] ⟨[], [], [], []⟩⟩
def wips : FuncId → Hint := fun f => lkH [(3, h3), (4, h4), (5, h5), (6, h6), (7, h7), (8, h8), (9, h9), (10, h10), (11, h11), (12, h12), (14, h14), (27, h27), (28, h28), (29, h29), (30, h30), (31, h31), (32, h32), (33, h33), (35, h35), (36, h36), (37, h37), (38, h38), (39, h39), (40, h40), (41, h41), (69, h69), (70, h70), (71, h71), (72, h72), (75, h75), (277, h277), (279, h279), (280, h280)] ⟨0, fun _ => [], fun _ => ⟨[], [], [], []⟩⟩ f

/-! ### erewhile/erewhilelaw57.CheckFine -/

def f3xJ1 (C : CallT) (Q : Post) (s0 : St) (t1 : Value) (s : St) : Prop :=
  optW (loadV (tAgg P 23) t1 s) (fun x5 =>
  optW (ptrAdd (tField P 23 2) t1) (fun x7 =>
  optW (loadV (tAgg P 3) x7 s) (fun x8 =>
  optW (binV P .eql 3 x8 (.int .i64 0)) (fun x9 =>
  callF P C (fv 5) [x5] (fun x6 s =>
  chkW (some true) ((loadV (tAgg P 3) x7 s) = some x8) (optW (some x9) (fun x10 =>
  optW (gO (boolIs true x10) (ptrAdd (tField P 23 3) t1)) (fun x11 =>
  optW (gO (boolIs true x10) (loadV (tAgg P 3) x11 s)) (fun x12 =>
  optW (gO (boolIs true x10) (binV P .eql 3 x12 (.int .i64 0))) (fun x13 =>
  optW (pickV x10 x13 (.bool false)) (fun x14 =>
  optW (binV P .eql 4 x6 x14) (fun x15 =>
  optW (some x15) (fun x16 =>
  optW (gO (boolIs true x16) (buildV P 23 #[])) (fun x20 =>
  gW (boolIs true x16) (fun k s => callF P C (fv 8) [(.slice none 0 0), (.bool false)] k s) (fun x17 s =>
  gW (boolIs true x16) (fun k s => callF P C (fv 7) [x17] k s) (fun x18 s =>
  gW (boolIs true x16) (fun k s => callF P C (fv 6) [(.pointer none), x18] k s) (fun x19 s =>
  optW (gO (boolIs true x16) (binV P .eql 23 x19 x20)) (fun x21 =>
  optW (pickV x16 x21 (.bool false)) (fun x22 =>
  optW (some x22) (fun x23 =>
  optW (gO (boolIs true x23) (buildV P 23 #[])) (fun x25 =>
  gW (boolIs true x23) (fun k s => callF P C (fv 6) [(.pointer none), (.pointer none)] k s) (fun x24 s =>
  optW (gO (boolIs true x23) (binV P .eql 23 x24 x25)) (fun x26 =>
  optW (pickV x23 x26 (.bool false)) (fun x27 =>
  optW (some x27) (fun x2x2 =>
  kEnd Q s0 (retV (consO (some x2x2) (some []))) s)))) s))))) s) s) s)))))))))) s))))

def f3xS (C : CallT) (Q : Post) (t0 : Value) (s0 : St) : Prop :=
  newW (boxN t0) (fun x1 s =>
  bindO (some (.bool false)) (fun x2 s =>
  callF P C (fv 4) [] (fun x3 s =>
  bindO (unV .not x3) (fun x4 s =>
  condW x4
  (bindO (some (.bool false)) (fun x2x1 s =>
  kEnd Q s0 (retV (consO (some x2x1) (some []))) s) s)
  (f3xJ1 C Q s0 x1 s)) s) s) s) s0

theorem f3xeq (C : CallT) (Q : Post) (t0 : Value) (s0 : St) : bodyW P C wips 3 [t0] Q s0 = f3xS C Q t0 s0 := by kernel_rfl

/-! ### erewhile/erewhilelaw57.awake -/

def f4xS (C : CallT) (Q : Post) (s0 : St) : Prop :=
  bindO (some (.bool false)) (fun x0 s =>
  bindO (buildV P 40 #[]) (fun x2 s =>
  bindO (mkIf 40 (tConcrete P 40) x2) (fun x3 s =>
  bindO (buildV P 30 #[(0, (.int .u8 1))]) (fun x4 s =>
  callF P C (fv 9) [x3, x4] (fun x5 s =>
  bindO (some x5) (fun x1 s =>
  bindO (some x1) (fun x6 s =>
  callF P C (fv 10) [x6, (.int .u64 2)] (fun x7 s =>
  bindO (some x1) (fun x8 s =>
  newW (bslN (tSlice P 43) 2 #[(0, (.int .u64 1)), (1, (.int .u64 2))]) (fun x9 s =>
  callF P C (fv 12) [x8, x9, (.slice none 0 0), (.int .u64 2)] (fun x10 s =>
  newW (bslN (tSlice P 43) 2 #[(0, (.int .u64 1)), (1, (.int .u64 2))]) (fun x11 s =>
  callF P C (fv 11) [x10, x11] (fun x12 s =>
  bindO (some x12) (fun x13 s =>
  gW (boolIs true x13) (fun k s => bindO (buildV P 23 #[(0, (.int .i64 3))]) k s) (fun x14 s =>
  gW (boolIs true x13) (fun k s => callF P C (fv 5) [x14] k s) (fun x15 s =>
  bindO (pickV x13 x15 (.bool false)) (fun x16 s =>
  bindO (some x16) (fun x17 s =>
  gW (boolIs true x17) (fun k s => bindO (buildV P 23 #[(3, (.int .i64 1))]) k s) (fun x18 s =>
  gW (boolIs true x17) (fun k s => callF P C (fv 5) [x18] k s) (fun x19 s =>
  gW (boolIs true x17) (fun k s => bindO (unV .not x19) k s) (fun x20 s =>
  bindO (pickV x17 x20 (.bool false)) (fun x21 s =>
  bindO (some x21) (fun x0x1 s =>
  kEnd Q s0 (retV (consO (some x0x1) (some []))) s) s) s) s) s) s) s) s) s) s) s) s) s) s) s) s) s) s) s) s) s) s) s) s0

theorem f4xeq (C : CallT) (Q : Post) (s0 : St) : bodyW P C wips 4 [] Q s0 = f4xS C Q  s0 := by kernel_rfl

/-! ### erewhile/check.Fine -/

def f5xS (C : CallT) (Q : Post) (t0 : Value) (s0 : St) : Prop :=
  newW (boxN t0) (fun x1 s =>
  bindO (some (.bool false)) (fun x2 s =>
  bindO (ptrAdd (tField P 23 2) x1) (fun x3 s =>
  bindO (loadV (tAgg P 3) x3 s) (fun x4 s =>
  bindO (binV P .eql 3 x4 (.int .i64 0)) (fun x5 s =>
  bindO (some x5) (fun x6 s =>
  gW (boolIs true x6) (fun k s => bindO (ptrAdd (tField P 23 3) x1) k s) (fun x7 s =>
  gW (boolIs true x6) (fun k s => bindO (loadV (tAgg P 3) x7 s) k s) (fun x8 s =>
  gW (boolIs true x6) (fun k s => bindO (binV P .eql 3 x8 (.int .i64 0)) k s) (fun x9 s =>
  bindO (pickV x6 x9 (.bool false)) (fun x10 s =>
  bindO (some x10) (fun x2x1 s =>
  kEnd Q s0 (retV (consO (some x2x1) (some []))) s) s) s) s) s) s) s) s) s) s) s) s0

theorem f5xeq (C : CallT) (Q : Post) (t0 : Value) (s0 : St) : bodyW P C wips 5 [t0] Q s0 = f5xS C Q t0 s0 := by kernel_rfl

/-! ### erewhile/check.All -/

noncomputable def f6xK1 (C : CallT) (Q : Post) (s0 : St) : CPost := kSeq (evC P C h6 (cR (cR (cR (cR (cR (cR (cR (cL (cR (cF P 6)))))))))) 0 (kBody P (cN P 6) Q s0)) (kBody P (cN P 6) Q s0)

noncomputable def f6xK2 (C : CallT) (Q : Post) (s0 : St) : CPost := kSeq (evC P C h6 (cR (cL (cR (cR (cR (cR (cR (cR (cL (cR (cF P 6))))))))))) 0 (f6xK1 C Q s0)) (f6xK1 C Q s0)

def f6xJ3 (C : CallT) (Q : Post) (s0 : St) (t0 t1 t2 t3 t4 t5 t12 t13 t14 t15 t16 t17 t18 t19 t20 t21 t22 t23 t24 t25 t26 t27 t28 t44 t45 t46 t47 t48 t49 t50 t51 t52 t53 t54 t55 t56 t57 t58 t59 t60 t61 t62 t63 t64 t65 t66 t67 t68 t69 t70 t71 t72 t73 t74 t75 t76 t77 t78 t79 t80 t81 t82 t83 t84 t85 t86 t87 t88 t89 t90 t91 t92 t93 t94 t95 t96 t97 t98 t99 t100 t101 t102 t103 t104 t105 t106 t107 t108 t109 t110 t111 t112 t113 t114 t115 t116 t117 t118 t119 t120 t121 t122 t123 t124 t125 t126 t127 t128 t129 t130 t131 t132 t133 t134 t135 t136 t137 t138 t139 t140 t141 : Value) (s : St) : Prop :=
  bindO (loadV (tAgg P 45) t2 s) (fun x29 s =>
  callF P C (fv 13) [x29] (fun x30 s =>
  bindO (some x30) (fun x6 s =>
  optW (loadV (tAgg P 45) t2 s) (fun x31 =>
  optW (loadV (tAgg P 27) t3 s) (fun x34 =>
  callF P C (fv 15) [x31] (fun x32 s =>
  chkW (some true) ((loadV (tAgg P 27) t3 s) = some x34) (callF P C (fv 14) [x32] (fun x33 s =>
  chkW (some true) ((loadV (tAgg P 27) t3 s) = some x34) (callF P C (fv 16) [x34] (fun x35 s =>
  callF P C (fv 14) [x35] (fun x36 s =>
  optW (some x33) (fun x7 =>
  optW (some x36) (fun x8 =>
  bindO (loadV (tAgg P 27) t3 s) (fun x38 s =>
  callF P C (fv 17) [x38] (fun x39 s =>
  bindO (some x39) (fun x37 s =>
  bindO (extV x37 0) (fun x40 s =>
  bindO (extV x37 1) (fun x41 s =>
  newW (zeroN (tZero P 3)) (fun x9 s =>
  newW (zeroN (tZero P 3)) (fun x10 s =>
  storeW (tSize P 3) x9 x40 (fun _ s =>
  storeW (tSize P 3) x10 x41 (fun _ s =>
  bindO (some x6) (fun x42 s =>
  callF P C (fv 18) [x42] (fun x43 s =>
  bindO (some x43) (fun x11 s =>
  evC P C h6 (cL (cL (cR (cR (cR (cR (cR (cR (cL (cR (cF P 6))))))))))) 0 (f6xK2 C Q s0) (ofL (t0 :: t1 :: t2 :: t3 :: t4 :: t5 :: x6 :: x7 :: x8 :: x9 :: x10 :: x11 :: t12 :: t13 :: t14 :: t15 :: t16 :: t17 :: t18 :: t19 :: t20 :: t21 :: t22 :: t23 :: t24 :: t25 :: t26 :: t27 :: t28 :: x29 :: x30 :: x31 :: x32 :: x33 :: x34 :: x35 :: x36 :: x37 :: x38 :: x39 :: x40 :: x41 :: x42 :: x43 :: t44 :: t45 :: t46 :: t47 :: t48 :: t49 :: t50 :: t51 :: t52 :: t53 :: t54 :: t55 :: t56 :: t57 :: t58 :: t59 :: t60 :: t61 :: t62 :: t63 :: t64 :: t65 :: t66 :: t67 :: t68 :: t69 :: t70 :: t71 :: t72 :: t73 :: t74 :: t75 :: t76 :: t77 :: t78 :: t79 :: t80 :: t81 :: t82 :: t83 :: t84 :: t85 :: t86 :: t87 :: t88 :: t89 :: t90 :: t91 :: t92 :: t93 :: t94 :: t95 :: t96 :: t97 :: t98 :: t99 :: t100 :: t101 :: t102 :: t103 :: t104 :: t105 :: t106 :: t107 :: t108 :: t109 :: t110 :: t111 :: t112 :: t113 :: t114 :: t115 :: t116 :: t117 :: t118 :: t119 :: t120 :: t121 :: t122 :: t123 :: t124 :: t125 :: t126 :: t127 :: t128 :: t129 :: t130 :: t131 :: t132 :: t133 :: t134 :: t135 :: t136 :: t137 :: t138 :: t139 :: t140 :: t141 :: [])) s) s) s) s) s) s) s) s) s) s) s) s) s))) s) s)) s)) s))) s) s) s

def f6xS (C : CallT) (Q : Post) (t0 t1 : Value) (s0 : St) : Prop :=
  newW (boxN t0) (fun x2 s =>
  newW (boxN t1) (fun x3 s =>
  newW (zeroN (tZero P 23)) (fun x4 s =>
  newW (zeroN (tZero P 23)) (fun x5 s =>
  bindO (loadV (tAgg P 45) x2 s) (fun x22 s =>
  bindO (binV P .eql 45 x22 (.pointer none)) (fun x23 s =>
  bindO (some x23) (fun x24 s =>
  gW (boolIs false x24) (fun k s => bindO (loadV (tAgg P 27) x3 s) k s) (fun x25 s =>
  gW (boolIs false x24) (fun k s => bindO (binV P .eql 27 x25 (.pointer none)) k s) (fun x26 s =>
  bindO (pickV x24 (.bool true) x26) (fun x27 s =>
  condW x27
  (bindO (loadV (tAgg P 23) x5 s) (fun x28 s =>
  storeW (tSize P 23) x4 x28 (fun _ s =>
  kEnd Q s0 (retV (consO (loadV (tAgg P 23) x4 s) (some []))) s) s) s)
  (f6xJ3 C Q s0 t0 t1 x2 x3 x4 x5 undef undef undef undef undef undef undef undef undef undef x22 x23 x24 x25 x26 x27 undef undef undef undef undef undef undef undef undef undef undef undef undef undef undef undef undef undef undef undef undef undef undef undef undef undef undef undef undef undef undef undef undef undef undef undef undef undef undef undef undef undef undef undef undef undef undef undef undef undef undef undef undef undef undef undef undef undef undef undef undef undef undef undef undef undef undef undef undef undef undef undef undef undef undef undef undef undef undef undef undef undef undef undef undef undef undef undef undef undef undef undef undef undef undef undef undef undef undef s)) s) s) s) s) s) s) s) s) s) s0

theorem f6xeq (C : CallT) (Q : Post) (t0 t1 : Value) (s0 : St) : bodyW P C wips 6 [t0, t1] Q s0 = f6xS C Q t0 t1 s0 := by kernel_rfl

/-! ### erewhile/truth.New -/

def f7xJ1 (C : CallT) (Q : Post) (s0 : St) (t1 t3 : Value) (s : St) : Prop :=
  optW (ptrAdd (tField P 33 2) t1) (fun x33 =>
  optW (loadV (tAgg P 3) x33 s) (fun x34 =>
  optW (ptrAdd (tField P 33 3) t1) (fun x35 =>
  optW (loadV (tAgg P 3) x35 s) (fun x36 =>
  optW (loadV (tAgg P 68) t3 s) (fun x38 =>
  callF P C (fv 28) [] (fun x37 s =>
  chkW (some true) ((loadV (tAgg P 3) x33 s) = some x34) (chkW (some true) ((loadV (tAgg P 3) x35 s) = some x36) (chkW (some true) ((loadV (tAgg P 68) t3 s) = some x38) (callF P C (fv 29) [] (fun x39 s =>
  chkW (some true) ((loadV (tAgg P 3) x33 s) = some x34) (chkW (some true) ((loadV (tAgg P 3) x35 s) = some x36) (chkW (some true) ((loadV (tAgg P 68) t3 s) = some x38) (callF P C (fv 30) [] (fun x40 s =>
  chkW (some true) ((loadV (tAgg P 3) x33 s) = some x34) (chkW (some true) ((loadV (tAgg P 3) x35 s) = some x36) (chkW (some true) ((loadV (tAgg P 68) t3 s) = some x38) (optW (buildV P 76 #[(0, x37), (1, x38), (2, x39), (3, x40)]) (fun x41 =>
  optW (buildV P 79 #[(0, x34), (1, x36), (5, x41)]) (fun x42 =>
  newW (boxN x42) (fun x43 s =>
  optW (some x43) (fun x2x2 =>
  kEnd Q s0 (retV (consO (some x2x2) (some []))) s)) s)))))) s)))) s)))) s)))))

def f7xS (C : CallT) (Q : Post) (t0 : Value) (s0 : St) : Prop :=
  newW (boxN t0) (fun x1 s =>
  bindO (some (.pointer none)) (fun x2 s =>
  bindO (ptrAdd (tField P 33 5) x1) (fun x6 s =>
  bindO (loadV (tAgg P 31) x6 s) (fun x7 s =>
  callF P C (fv 27) [x7] (fun x8 s =>
  bindO (some x8) (fun x5 s =>
  bindO (extV x5 0) (fun x9 s =>
  bindO (extV x5 1) (fun x10 s =>
  newW (zeroN (tZero P 68)) (fun x3 s =>
  storeW (tSize P 68) x3 x9 (fun _ s =>
  bindO (some x10) (fun x4 s =>
  bindO (ptrAdd (tField P 33 2) x1) (fun x11 s =>
  bindO (loadV (tAgg P 3) x11 s) (fun x12 s =>
  bindO (binV P .lss 3 x12 (.int .i64 1)) (fun x13 s =>
  bindO (some x13) (fun x14 s =>
  gW (boolIs false x14) (fun k s => bindO (ptrAdd (tField P 33 2) x1) k s) (fun x15 s =>
  gW (boolIs false x14) (fun k s => bindO (loadV (tAgg P 3) x15 s) k s) (fun x16 s =>
  gW (boolIs false x14) (fun k s => bindO (binV P .gtr 3 x16 (.int .i64 8)) k s) (fun x17 s =>
  bindO (pickV x14 (.bool true) x17) (fun x18 s =>
  bindO (some x18) (fun x19 s =>
  gW (boolIs false x19) (fun k s => bindO (ptrAdd (tField P 33 3) x1) k s) (fun x20 s =>
  gW (boolIs false x19) (fun k s => bindO (loadV (tAgg P 3) x20 s) k s) (fun x21 s =>
  gW (boolIs false x19) (fun k s => bindO (binV P .lss 3 x21 (.int .i64 1)) k s) (fun x22 s =>
  bindO (pickV x19 (.bool true) x22) (fun x23 s =>
  bindO (some x23) (fun x24 s =>
  gW (boolIs false x24) (fun k s => bindO (ptrAdd (tField P 33 3) x1) k s) (fun x25 s =>
  gW (boolIs false x24) (fun k s => bindO (loadV (tAgg P 3) x25 s) k s) (fun x26 s =>
  gW (boolIs false x24) (fun k s => bindO (binV P .gtr 3 x26 (.int .i64 256)) k s) (fun x27 s =>
  bindO (pickV x24 (.bool true) x27) (fun x28 s =>
  bindO (some x28) (fun x29 s =>
  gW (boolIs false x29) (fun k s => bindO (some x4) k s) (fun x30 s =>
  gW (boolIs false x29) (fun k s => bindO (binV P .neq 58 x30 (.int .i64 0)) k s) (fun x31 s =>
  bindO (pickV x29 (.bool true) x31) (fun x32 s =>
  condW x32
  (bindO (some (.pointer none)) (fun x2x1 s =>
  kEnd Q s0 (retV (consO (some x2x1) (some []))) s) s)
  (f7xJ1 C Q s0 x1 x3 s)) s) s) s) s) s) s) s) s) s) s) s) s) s) s) s) s) s) s) s) s) s) s) s) s) s) s) s) s) s) s) s) s) s0

theorem f7xeq (C : CallT) (Q : Post) (t0 : Value) (s0 : St) : bodyW P C wips 7 [t0] Q s0 = f7xS C Q t0 s0 := by kernel_rfl

/-! ### erewhile/erewhilelaw57.Setup -/

def f8xS (C : CallT) (Q : Post) (t0 t1 : Value) (s0 : St) : Prop :=
  newW (zeroN (tZero P 33)) (fun x4 s =>
  bindO (some t0) (fun x5 s =>
  bindO (some t1) (fun x6 s =>
  bindO (buildV P 30 #[(0, (.int .u8 7))]) (fun x7 s =>
  bindO (buildV P 33 #[(0, (.int .i64 5)), (1, (.int .i64 4)), (2, (.int .i64 2)), (3, (.int .i64 3)), (5, x5), (6, x6), (4, x7)]) (fun x8 s =>
  storeW (tSize P 33) x4 x8 (fun _ s =>
  kEnd Q s0 (retV (consO (loadV (tAgg P 33) x4 s) (some []))) s) s) s) s) s) s) s0

theorem f8xeq (C : CallT) (Q : Post) (t0 t1 : Value) (s0 : St) : bodyW P C wips 8 [t0, t1] Q s0 = f8xS C Q t0 t1 s0 := by kernel_rfl

/-! ### erewhile/keytree.New -/

def f9xJ1 (C : CallT) (Q : Post) (s0 : St) (t0 t3 : Value) (s : St) : Prop :=
  bindO (some t0) (fun x7 s =>
  bindO (loadV (tAgg P 30) t3 s) (fun x8 s =>
  bindO (buildV P 83 #[(2, x8)]) (fun x9 s =>
  newW (bslN (tSlice P 84) 1 #[(0, x9)]) (fun x10 s =>
  bindO (buildV P 86 #[(0, x7), (1, x10)]) (fun x11 s =>
  newW (boxN x11) (fun x12 s =>
  bindO (some x12) (fun x4x2 s =>
  kEnd Q s0 (retV (consO (some x4x2) (some []))) s) s) s) s) s) s) s) s

def f9xS (C : CallT) (Q : Post) (t0 t1 : Value) (s0 : St) : Prop :=
  newW (boxN t1) (fun x3 s =>
  bindO (some (.pointer none)) (fun x4 s =>
  bindO (some t0) (fun x5 s =>
  bindO (binV P .eql 81 x5 .nilIface) (fun x6 s =>
  condW x6
  (bindO (some (.pointer none)) (fun x4x1 s =>
  kEnd Q s0 (retV (consO (some x4x1) (some []))) s) s)
  (f9xJ1 C Q s0 t0 x3 s)) s) s) s) s0

theorem f9xeq (C : CallT) (Q : Post) (t0 t1 : Value) (s0 : St) : bodyW P C wips 9 [t0, t1] Q s0 = f9xS C Q t0 t1 s0 := by kernel_rfl

/-! ### (*erewhile/keytree.Tree).Puncture -/

def f10xJ1 (C : CallT) (Q : Post) (s0 : St) (t0 t1 t5 : Value) (s : St) : Prop :=
  newW (zeroN (tZero P 84)) (fun x7 s =>
  bindO (some t0) (fun x16 s =>
  bindO (some t0) (fun x17 s =>
  bindO (nilV x17) (fun x18 s =>
  bindO (ptrAdd (tField P 86 1) x18) (fun x19 s =>
  bindO (loadV (tAgg P 84) x19 s) (fun x20 s =>
  bindO (some t5) (fun x21 s =>
  bindO (idxAddr (tElem P 84) x20 x21) (fun x22 s =>
  bindO (loadV (tAgg P 83) x22 s) (fun x23 s =>
  bindO (some t1) (fun x24 s =>
  bindO (mkFn 33 0 #[x7]) (fun x25 s =>
  callF P C (fv 32) [x16, x23, x24, x25] (fun x26 s =>
  bindO (loadV (tAgg P 84) x7 s) (fun x27 s =>
  callF P C (fv 34) [x27, (fv 35)] (fun x28 s =>
  optW (some t0) (fun x29 =>
  optW (some t0) (fun x30 =>
  optW (nilV x30) (fun x31 =>
  optW (ptrAdd (tField P 86 1) x31) (fun x32 =>
  optW (loadV (tAgg P 84) x32 s) (fun x33 =>
  optW (some t5) (fun x34 =>
  optW (some t5) (fun x35 =>
  optW (binV P .add 3 x35 (.int .i64 1)) (fun x36 =>
  optW (some t5) (fun x38 =>
  optW (loadV (tAgg P 84) x7 s) (fun x39 =>
  callF P C (fv 38) [x33, x34, x36] (fun x37 s =>
  chkW (some true) ((loadV (tAgg P 84) x7 s) = some x39) (callF P C (fv 37) [x37, x38, x39] (fun x40 s =>
  optW (nilV x29) (fun x41 =>
  optW (ptrAdd (tField P 86 1) x41) (fun x42 =>
  storeW (tSize P 84) x42 x40 (fun _ s =>
  bindO (some (.bool true)) (fun x4x2 s =>
  kEnd Q s0 (retV (consO (some x4x2) (some []))) s) s) s))) s)) s))))))))))) s) s) s) s) s) s) s) s) s) s) s) s) s) s

def f10xS (C : CallT) (Q : Post) (t0 t1 : Value) (s0 : St) : Prop :=
  bindO (some (.bool false)) (fun x4 s =>
  bindO (some t0) (fun x9 s =>
  bindO (some t1) (fun x10 s =>
  callF P C (fv 31) [x9, x10] (fun x11 s =>
  bindO (some x11) (fun x8 s =>
  bindO (extV x8 0) (fun x12 s =>
  bindO (extV x8 1) (fun x13 s =>
  bindO (some x12) (fun x5 s =>
  bindO (some x13) (fun x6 s =>
  bindO (some x6) (fun x14 s =>
  bindO (unV .not x14) (fun x15 s =>
  condW x15
  (bindO (some (.bool false)) (fun x4x1 s =>
  kEnd Q s0 (retV (consO (some x4x1) (some []))) s) s)
  (f10xJ1 C Q s0 t0 t1 x5 s)) s) s) s) s) s) s) s) s) s) s) s0

theorem f10xeq (C : CallT) (Q : Post) (t0 t1 : Value) (s0 : St) : bodyW P C wips 10 [t0, t1] Q s0 = f10xS C Q t0 t1 s0 := by kernel_rfl

/-! ### erewhile/erewhileref29.Nums -/

noncomputable def f11xl0 : Code := (cL (cR (cL (cR (cR (cF P 11))))))
noncomputable def f11xb0 : Code := (cL (cL (cR (cL (cR (cR (cF P 11)))))))

def f11xJ1 (C : CallT) (K : CPost) (I : Value → Value → Value → Value → St → Prop) (t0 t1 t4 t5 : Value) (s : St) : Prop :=
  bindO (some t5) (fun x15 s =>
  bindO (binV P .add 3 x15 (.int .i64 1)) (fun x16 s =>
  bindO (some x16) (fun x5x1 s =>
  I t0 t1 t4 x5x1 s) s) s) s

def f11xJ2 (C : CallT) (K : CPost) (I : Value → Value → Value → Value → St → Prop) (t0 t1 t4 t5 : Value) (s : St) : Prop :=
  optW (some t0) (fun x17 =>
  optW (some t5) (fun x18 =>
  optW (idxAddr (tElem P 43) x17 x18) (fun x19 =>
  optW (loadV (tAgg P 37) x19 s) (fun x20 =>
  optW (some t1) (fun x21 =>
  optW (some t5) (fun x22 =>
  optW (idxAddr (tElem P 43) x21 x22) (fun x23 =>
  optW (loadV (tAgg P 37) x23 s) (fun x24 =>
  optW (binV P .neq 37 x20 x24) (fun x25 =>
  condW x25
  (bindO (some (.bool false)) (fun x4x2 s =>
  K .ret (ofL (t0 :: t1 :: undef :: undef :: x4x2 :: t5 :: undef :: undef :: undef :: undef :: undef :: undef :: undef :: undef :: undef :: undef :: undef :: undef :: undef :: undef :: undef :: undef :: undef :: undef :: undef :: undef :: [])) s) s)
  (f11xJ1 C K I t0 t1 t4 t5 s))))))))))

def f11xB0 (C : CallT) (K : CPost) (I : Value → Value → Value → Value → St → Prop) (t0 t1 t4 t5 : Value) (s : St) : Prop :=
  bindO (some t5) (fun x11 s =>
  bindO (some t0) (fun x12 s =>
  bindO (lenR P 43 x12 s) (fun x13 s =>
  bindO (binV P .lss 3 x11 x13) (fun x14 s =>
  condW x14
  (f11xJ2 C K I t0 t1 t4 t5 s)
  (K (.exit 0) (ofL (t0 :: t1 :: undef :: undef :: t4 :: t5 :: undef :: undef :: undef :: undef :: undef :: undef :: undef :: undef :: undef :: undef :: undef :: undef :: undef :: undef :: undef :: undef :: undef :: undef :: undef :: undef :: [])) s)) s) s) s) s

theorem f11xloop0 {C : CallT} {K : CPost} {t0 t1 t4 t5 : Value} {s : St} (h : ∀ I : Value → Value → Value → Value → St → Prop, (∀ t0 t1 t4 t5 s, f11xB0 C K I t0 t1 t4 t5 s → I t0 t1 t4 t5 s) → I t0 t1 t4 t5 s) :
    evC P C h11 f11xl0 0 K (ofL (t0 :: t1 :: undef :: undef :: t4 :: t5 :: undef :: undef :: undef :: undef :: undef :: undef :: undef :: undef :: undef :: undef :: undef :: undef :: undef :: undef :: undef :: undef :: undef :: undef :: undef :: undef :: [])) s := by
  have e : evC P C h11 f11xl0 0 K (ofL (t0 :: t1 :: undef :: undef :: t4 :: t5 :: undef :: undef :: undef :: undef :: undef :: undef :: undef :: undef :: undef :: undef :: undef :: undef :: undef :: undef :: undef :: undef :: undef :: undef :: undef :: undef :: [])) s = LoopC P C h11 f11xb0 0 K (t0 :: t1 :: undef :: undef :: t4 :: t5 :: undef :: undef :: undef :: undef :: undef :: undef :: undef :: undef :: undef :: undef :: undef :: undef :: undef :: undef :: undef :: undef :: undef :: undef :: undef :: undef :: []) s := by kernel_rfl
  rw [e]
  intro J hJ
  refine h (fun t0 t1 t4 t5 s => J (t0 :: t1 :: undef :: undef :: t4 :: t5 :: undef :: undef :: undef :: undef :: undef :: undef :: undef :: undef :: undef :: undef :: undef :: undef :: undef :: undef :: undef :: undef :: undef :: undef :: undef :: undef :: []) s) (fun t0 t1 t4 t5 s hb => hJ _ s ?_)
  have e2 : evC P C h11 f11xb0 0 (kLoop h11 0 J K) (ofL (t0 :: t1 :: undef :: undef :: t4 :: t5 :: undef :: undef :: undef :: undef :: undef :: undef :: undef :: undef :: undef :: undef :: undef :: undef :: undef :: undef :: undef :: undef :: undef :: undef :: undef :: undef :: [])) s = f11xB0 C K (fun t0 t1 t4 t5 s => J (t0 :: t1 :: undef :: undef :: t4 :: t5 :: undef :: undef :: undef :: undef :: undef :: undef :: undef :: undef :: undef :: undef :: undef :: undef :: undef :: undef :: undef :: undef :: undef :: undef :: undef :: undef :: []) s) t0 t1 t4 t5 s := by kernel_rfl
  rw [e2]
  exact hb

def f11xJ3 (C : CallT) (Q : Post) (s0 : St) (s : St) : Prop :=
  bindO (some (.bool true)) (fun x4x3 s =>
  kEnd Q s0 (retV (consO (some x4x3) (some []))) s) s

def f11xE0x0 (C : CallT) (Q : Post) (s0 : St) (s : St) : Prop :=
  f11xJ3 C Q s0  s

noncomputable def f11xK4 (C : CallT) (Q : Post) (s0 : St) : CPost := kSeq (evC P C h11 (cR (cR (cR (cF P 11)))) 0 (kBody P (cN P 11) Q s0)) (kBody P (cN P 11) Q s0)

noncomputable def f11xK5 (C : CallT) (Q : Post) (s0 : St) : CPost := kBlock 0 (f11xK4 C Q s0)

theorem f11xE0x0xeq (C : CallT) (Q : Post) (s0 : St) (t0 t1 t4 t5 : Value) (s : St) : (f11xK5 C Q s0) (.exit 0) (ofL (t0 :: t1 :: undef :: undef :: t4 :: t5 :: undef :: undef :: undef :: undef :: undef :: undef :: undef :: undef :: undef :: undef :: undef :: undef :: undef :: undef :: undef :: undef :: undef :: undef :: undef :: undef :: [])) s = f11xE0x0 C Q s0  s := by kernel_rfl

def f11xE0xret (C : CallT) (Q : Post) (s0 : St) (t4 : Value) (s : St) : Prop :=
  kEnd Q s0 (retV (consO (some t4) (some []))) s

theorem f11xE0xret_eq (C : CallT) (Q : Post) (s0 : St) (t0 t1 t4 t5 : Value) (s : St) : (f11xK5 C Q s0) .ret (ofL (t0 :: t1 :: undef :: undef :: t4 :: t5 :: undef :: undef :: undef :: undef :: undef :: undef :: undef :: undef :: undef :: undef :: undef :: undef :: undef :: undef :: undef :: undef :: undef :: undef :: undef :: undef :: [])) s = f11xE0xret C Q s0 t4 s := by kernel_rfl

def f11xJ6 (C : CallT) (Q : Post) (s0 : St) (t0 t1 t4 : Value) (s : St) : Prop :=
  bindO (some (.int .i64 0)) (fun x5 s =>
  evC P C h11 f11xl0 0 (f11xK5 C Q s0) (ofL (t0 :: t1 :: undef :: undef :: t4 :: x5 :: undef :: undef :: undef :: undef :: undef :: undef :: undef :: undef :: undef :: undef :: undef :: undef :: undef :: undef :: undef :: undef :: undef :: undef :: undef :: undef :: [])) s) s

def f11xS (C : CallT) (Q : Post) (t0 t1 : Value) (s0 : St) : Prop :=
  bindO (some (.bool false)) (fun x4 s =>
  bindO (some t0) (fun x6 s =>
  bindO (lenR P 43 x6 s) (fun x7 s =>
  bindO (some t1) (fun x8 s =>
  bindO (lenR P 43 x8 s) (fun x9 s =>
  bindO (binV P .neq 3 x7 x9) (fun x10 s =>
  condW x10
  (bindO (some (.bool false)) (fun x4x1 s =>
  kEnd Q s0 (retV (consO (some x4x1) (some []))) s) s)
  (f11xJ6 C Q s0 t0 t1 x4 s)) s) s) s) s) s) s0

theorem f11xeq (C : CallT) (Q : Post) (t0 t1 : Value) (s0 : St) : bodyW P C wips 11 [t0, t1] Q s0 = f11xS C Q t0 t1 s0 := by kernel_rfl

/-! ### erewhile/check.Leaks -/

noncomputable def f12xl0 : Code := (cL (cR (cL (cR (cR (cR (cR (cF P 12))))))))
noncomputable def f12xb0 : Code := (cL (cL (cR (cL (cR (cR (cR (cR (cF P 12)))))))))

def f12xJ1 (C : CallT) (K : CPost) (I : Value → Value → Value → Value → Value → Value → St → Prop) (t0 t3 t9 t10 t11 t12 : Value) (s : St) : Prop :=
  bindO (some t12) (fun x23 s =>
  bindO (binV P .add 37 x23 (.int .u64 1)) (fun x24 s =>
  bindO (some x24) (fun x12x1 s =>
  I t0 t3 t9 t10 t11 x12x1 s) s) s) s

def f12xJ2 (C : CallT) (K : CPost) (I : Value → Value → Value → Value → Value → Value → St → Prop) (t0 t3 t9 t10 t11 t12 : Value) (s : St) : Prop :=
  bindO (some t0) (fun x25 s =>
  bindO (some t12) (fun x26 s =>
  callF P C (fv 40) [x26] (fun x27 s =>
  callF P C (fv 39) [x25, x27] (fun x28 s =>
  bindO (some x28) (fun x29 s =>
  gW (boolIs true x29) (fun k s => bindO (some t10) k s) (fun x30 s =>
  gW (boolIs true x29) (fun k s => bindO (some t12) k s) (fun x31 s =>
  gW (boolIs true x29) (fun k s => bindO (lookV (tMap P 48) x30 x31 false s) k s) (fun x32 s =>
  gW (boolIs true x29) (fun k s => bindO (unV .not x32) k s) (fun x33 s =>
  bindO (pickV x29 x33 (.bool false)) (fun x34 s =>
  bindO (some x34) (fun x35 s =>
  gW (boolIs false x35) (fun k s => bindO (some t0) k s) (fun x36 s =>
  gW (boolIs false x35) (fun k s => bindO (some t12) k s) (fun x37 s =>
  gW (boolIs false x35) (fun k s => callF P C (fv 41) [x37] k s) (fun x38 s =>
  gW (boolIs false x35) (fun k s => callF P C (fv 39) [x36, x38] k s) (fun x39 s =>
  gW (boolIs false x35) (fun k s => bindO (some x39) k s) (fun x40 s =>
  gW (boolIs true x40) (fun k s => bindO (some t11) k s) (fun x41 s =>
  gW (boolIs true x40) (fun k s => bindO (some t12) k s) (fun x42 s =>
  gW (boolIs true x40) (fun k s => bindO (lookV (tMap P 48) x41 x42 false s) k s) (fun x43 s =>
  gW (boolIs true x40) (fun k s => bindO (unV .not x43) k s) (fun x44 s =>
  gW (boolIs false x35) (fun k s => bindO (pickV x40 x44 (.bool false)) k s) (fun x45 s =>
  bindO (pickV x35 (.bool true) x45) (fun x46 s =>
  condW x46
  (bindO (some t9) (fun x47 s =>
  bindO (some t12) (fun x48 s =>
  newW (bslN (tSlice P 43) 1 #[(0, x48)]) (fun x49 s =>
  apdW P (tSlice P 43) 43 x47 x49 (fun x50 s =>
  bindO (some x50) (fun x9x1 s =>
  f12xJ1 C K I t0 t3 x9x1 t10 t11 t12 s) s) s) s) s) s)
  (f12xJ1 C K I t0 t3 t9 t10 t11 t12 s)) s) s) s) s) s) s) s) s) s) s) s) s) s) s) s) s) s) s) s) s) s) s

def f12xB0 (C : CallT) (K : CPost) (I : Value → Value → Value → Value → Value → Value → St → Prop) (t0 t3 t9 t10 t11 t12 : Value) (s : St) : Prop :=
  bindO (some t12) (fun x19 s =>
  bindO (some t3) (fun x20 s =>
  bindO (foldV min2 [x20, (.int .u64 65535)]) (fun x21 s =>
  bindO (binV P .leq 37 x19 x21) (fun x22 s =>
  condW x22
  (f12xJ2 C K I t0 t3 t9 t10 t11 t12 s)
  (K (.exit 0) (ofL (t0 :: undef :: undef :: t3 :: undef :: undef :: undef :: undef :: undef :: t9 :: t10 :: t11 :: t12 :: undef :: undef :: undef :: undef :: undef :: undef :: undef :: undef :: undef :: undef :: undef :: undef :: undef :: undef :: undef :: undef :: undef :: undef :: undef :: undef :: undef :: undef :: undef :: undef :: undef :: undef :: undef :: undef :: undef :: undef :: undef :: undef :: undef :: undef :: undef :: undef :: undef :: undef :: undef :: [])) s)) s) s) s) s

theorem f12xloop0 {C : CallT} {K : CPost} {t0 t3 t9 t10 t11 t12 : Value} {s : St} (h : ∀ I : Value → Value → Value → Value → Value → Value → St → Prop, (∀ t0 t3 t9 t10 t11 t12 s, f12xB0 C K I t0 t3 t9 t10 t11 t12 s → I t0 t3 t9 t10 t11 t12 s) → I t0 t3 t9 t10 t11 t12 s) :
    evC P C h12 f12xl0 0 K (ofL (t0 :: undef :: undef :: t3 :: undef :: undef :: undef :: undef :: undef :: t9 :: t10 :: t11 :: t12 :: undef :: undef :: undef :: undef :: undef :: undef :: undef :: undef :: undef :: undef :: undef :: undef :: undef :: undef :: undef :: undef :: undef :: undef :: undef :: undef :: undef :: undef :: undef :: undef :: undef :: undef :: undef :: undef :: undef :: undef :: undef :: undef :: undef :: undef :: undef :: undef :: undef :: undef :: undef :: [])) s := by
  have e : evC P C h12 f12xl0 0 K (ofL (t0 :: undef :: undef :: t3 :: undef :: undef :: undef :: undef :: undef :: t9 :: t10 :: t11 :: t12 :: undef :: undef :: undef :: undef :: undef :: undef :: undef :: undef :: undef :: undef :: undef :: undef :: undef :: undef :: undef :: undef :: undef :: undef :: undef :: undef :: undef :: undef :: undef :: undef :: undef :: undef :: undef :: undef :: undef :: undef :: undef :: undef :: undef :: undef :: undef :: undef :: undef :: undef :: undef :: [])) s = LoopC P C h12 f12xb0 0 K (t0 :: undef :: undef :: t3 :: undef :: undef :: undef :: undef :: undef :: t9 :: t10 :: t11 :: t12 :: undef :: undef :: undef :: undef :: undef :: undef :: undef :: undef :: undef :: undef :: undef :: undef :: undef :: undef :: undef :: undef :: undef :: undef :: undef :: undef :: undef :: undef :: undef :: undef :: undef :: undef :: undef :: undef :: undef :: undef :: undef :: undef :: undef :: undef :: undef :: undef :: undef :: undef :: undef :: []) s := by kernel_rfl
  rw [e]
  intro J hJ
  refine h (fun t0 t3 t9 t10 t11 t12 s => J (t0 :: undef :: undef :: t3 :: undef :: undef :: undef :: undef :: undef :: t9 :: t10 :: t11 :: t12 :: undef :: undef :: undef :: undef :: undef :: undef :: undef :: undef :: undef :: undef :: undef :: undef :: undef :: undef :: undef :: undef :: undef :: undef :: undef :: undef :: undef :: undef :: undef :: undef :: undef :: undef :: undef :: undef :: undef :: undef :: undef :: undef :: undef :: undef :: undef :: undef :: undef :: undef :: undef :: []) s) (fun t0 t3 t9 t10 t11 t12 s hb => hJ _ s ?_)
  have e2 : evC P C h12 f12xb0 0 (kLoop h12 0 J K) (ofL (t0 :: undef :: undef :: t3 :: undef :: undef :: undef :: undef :: undef :: t9 :: t10 :: t11 :: t12 :: undef :: undef :: undef :: undef :: undef :: undef :: undef :: undef :: undef :: undef :: undef :: undef :: undef :: undef :: undef :: undef :: undef :: undef :: undef :: undef :: undef :: undef :: undef :: undef :: undef :: undef :: undef :: undef :: undef :: undef :: undef :: undef :: undef :: undef :: undef :: undef :: undef :: undef :: undef :: [])) s = f12xB0 C K (fun t0 t3 t9 t10 t11 t12 s => J (t0 :: undef :: undef :: t3 :: undef :: undef :: undef :: undef :: undef :: t9 :: t10 :: t11 :: t12 :: undef :: undef :: undef :: undef :: undef :: undef :: undef :: undef :: undef :: undef :: undef :: undef :: undef :: undef :: undef :: undef :: undef :: undef :: undef :: undef :: undef :: undef :: undef :: undef :: undef :: undef :: undef :: undef :: undef :: undef :: undef :: undef :: undef :: undef :: undef :: undef :: undef :: undef :: undef :: []) s) t0 t3 t9 t10 t11 t12 s := by kernel_rfl
  rw [e2]
  exact hb

def f12xJ3 (C : CallT) (Q : Post) (s0 : St) (t9 : Value) (s : St) : Prop :=
  bindO (some t9) (fun x51 s =>
  bindO (some x51) (fun x8x2 s =>
  kEnd Q s0 (retV (consO (some x8x2) (some []))) s) s) s

def f12xE0x0 (C : CallT) (Q : Post) (s0 : St) (t9 : Value) (s : St) : Prop :=
  f12xJ3 C Q s0 t9 s

noncomputable def f12xK4 (C : CallT) (Q : Post) (s0 : St) : CPost := kSeq (evC P C h12 (cR (cR (cR (cR (cR (cF P 12)))))) 0 (kBody P (cN P 12) Q s0)) (kBody P (cN P 12) Q s0)

noncomputable def f12xK5 (C : CallT) (Q : Post) (s0 : St) : CPost := kBlock 0 (f12xK4 C Q s0)

theorem f12xE0x0xeq (C : CallT) (Q : Post) (s0 : St) (t0 t3 t9 t10 t11 t12 : Value) (s : St) : (f12xK5 C Q s0) (.exit 0) (ofL (t0 :: undef :: undef :: t3 :: undef :: undef :: undef :: undef :: undef :: t9 :: t10 :: t11 :: t12 :: undef :: undef :: undef :: undef :: undef :: undef :: undef :: undef :: undef :: undef :: undef :: undef :: undef :: undef :: undef :: undef :: undef :: undef :: undef :: undef :: undef :: undef :: undef :: undef :: undef :: undef :: undef :: undef :: undef :: undef :: undef :: undef :: undef :: undef :: undef :: undef :: undef :: undef :: undef :: [])) s = f12xE0x0 C Q s0 t9 s := by kernel_rfl

def f12xJ6 (C : CallT) (Q : Post) (s0 : St) (t0 t1 t2 t3 : Value) (s : St) : Prop :=
  bindO (some (.slice none 0 0)) (fun x9 s =>
  bindO (some t1) (fun x15 s =>
  callF P C (fv 14) [x15] (fun x16 s =>
  bindO (some t2) (fun x17 s =>
  callF P C (fv 14) [x17] (fun x18 s =>
  bindO (some x16) (fun x10 s =>
  bindO (some x18) (fun x11 s =>
  bindO (some (.int .u64 1)) (fun x12 s =>
  evC P C h12 f12xl0 0 (f12xK5 C Q s0) (ofL (t0 :: undef :: undef :: t3 :: undef :: undef :: undef :: undef :: undef :: x9 :: x10 :: x11 :: x12 :: undef :: undef :: undef :: undef :: undef :: undef :: undef :: undef :: undef :: undef :: undef :: undef :: undef :: undef :: undef :: undef :: undef :: undef :: undef :: undef :: undef :: undef :: undef :: undef :: undef :: undef :: undef :: undef :: undef :: undef :: undef :: undef :: undef :: undef :: undef :: undef :: undef :: undef :: undef :: [])) s) s) s) s) s) s) s) s) s

def f12xS (C : CallT) (Q : Post) (t0 t1 t2 t3 : Value) (s0 : St) : Prop :=
  bindO (some (.slice none 0 0)) (fun x8 s =>
  bindO (some t0) (fun x13 s =>
  bindO (binV P .eql 35 x13 (.pointer none)) (fun x14 s =>
  condW x14
  (bindO (some (.slice none 0 0)) (fun x8x1 s =>
  kEnd Q s0 (retV (consO (some x8x1) (some []))) s) s)
  (f12xJ6 C Q s0 t0 t1 t2 t3 s)) s) s) s0

theorem f12xeq (C : CallT) (Q : Post) (t0 t1 t2 t3 : Value) (s0 : St) : bodyW P C wips 12 [t0, t1, t2, t3] Q s0 = f12xS C Q t0 t1 t2 t3 s0 := by kernel_rfl

/-! ### erewhile/check.set -/

noncomputable def f14xl0 : Code := (cL (cR (cL (cR (cR (cF P 14))))))
noncomputable def f14xb0 : Code := (cL (cL (cR (cL (cR (cR (cF P 14)))))))

def f14xJ1 (C : CallT) (K : CPost) (I : Value → Value → Value → Value → St → Prop) (t3 t7 t8 t9 : Value) (s : St) : Prop :=
  bindO (binV P .add 3 t9 (.int .i64 1)) (fun x15 s =>
  bindO (some x15) (fun x9x1 s =>
  I t3 t7 t8 x9x1 s) s) s

def f14xJ2 (C : CallT) (K : CPost) (I : Value → Value → Value → Value → St → Prop) (t3 t7 t8 t9 : Value) (s : St) : Prop :=
  bindO (idxAddr (tElem P 43) t7 t9) (fun x11 s =>
  bindO (loadV (tAgg P 37) x11 s) (fun x12 s =>
  bindO (some x12) (fun x5 s =>
  bindO (some t3) (fun x13 s =>
  bindO (some x5) (fun x14 s =>
  mapPutW (tMap P 48) x13 x14 (.bool true) (fun _ s =>
  f14xJ1 C K I t3 t7 t8 t9 s) s) s) s) s) s) s

def f14xB0 (C : CallT) (K : CPost) (I : Value → Value → Value → Value → St → Prop) (t3 t7 t8 t9 : Value) (s : St) : Prop :=
  bindO (binV P .lss 3 t9 t8) (fun x10 s =>
  condW x10
  (f14xJ2 C K I t3 t7 t8 t9 s)
  (K (.exit 0) (ofL (undef :: undef :: undef :: t3 :: undef :: undef :: undef :: t7 :: t8 :: t9 :: undef :: undef :: undef :: undef :: undef :: undef :: undef :: [])) s)) s

theorem f14xloop0 {C : CallT} {K : CPost} {t3 t7 t8 t9 : Value} {s : St} (h : ∀ I : Value → Value → Value → Value → St → Prop, (∀ t3 t7 t8 t9 s, f14xB0 C K I t3 t7 t8 t9 s → I t3 t7 t8 t9 s) → I t3 t7 t8 t9 s) :
    evC P C h14 f14xl0 0 K (ofL (undef :: undef :: undef :: t3 :: undef :: undef :: undef :: t7 :: t8 :: t9 :: undef :: undef :: undef :: undef :: undef :: undef :: undef :: [])) s := by
  have e : evC P C h14 f14xl0 0 K (ofL (undef :: undef :: undef :: t3 :: undef :: undef :: undef :: t7 :: t8 :: t9 :: undef :: undef :: undef :: undef :: undef :: undef :: undef :: [])) s = LoopC P C h14 f14xb0 0 K (undef :: undef :: undef :: t3 :: undef :: undef :: undef :: t7 :: t8 :: t9 :: undef :: undef :: undef :: undef :: undef :: undef :: undef :: []) s := by kernel_rfl
  rw [e]
  intro J hJ
  refine h (fun t3 t7 t8 t9 s => J (undef :: undef :: undef :: t3 :: undef :: undef :: undef :: t7 :: t8 :: t9 :: undef :: undef :: undef :: undef :: undef :: undef :: undef :: []) s) (fun t3 t7 t8 t9 s hb => hJ _ s ?_)
  have e2 : evC P C h14 f14xb0 0 (kLoop h14 0 J K) (ofL (undef :: undef :: undef :: t3 :: undef :: undef :: undef :: t7 :: t8 :: t9 :: undef :: undef :: undef :: undef :: undef :: undef :: undef :: [])) s = f14xB0 C K (fun t3 t7 t8 t9 s => J (undef :: undef :: undef :: t3 :: undef :: undef :: undef :: t7 :: t8 :: t9 :: undef :: undef :: undef :: undef :: undef :: undef :: undef :: []) s) t3 t7 t8 t9 s := by kernel_rfl
  rw [e2]
  exact hb

def f14xJ3 (C : CallT) (Q : Post) (s0 : St) (t3 : Value) (s : St) : Prop :=
  bindO (some t3) (fun x16 s =>
  bindO (some x16) (fun x2x1 s =>
  kEnd Q s0 (retV (consO (some x2x1) (some []))) s) s) s

def f14xE0x0 (C : CallT) (Q : Post) (s0 : St) (t3 : Value) (s : St) : Prop :=
  f14xJ3 C Q s0 t3 s

noncomputable def f14xK4 (C : CallT) (Q : Post) (s0 : St) : CPost := kSeq (evC P C h14 (cR (cR (cR (cF P 14)))) 0 (kBody P (cN P 14) Q s0)) (kBody P (cN P 14) Q s0)

noncomputable def f14xK5 (C : CallT) (Q : Post) (s0 : St) : CPost := kBlock 0 (f14xK4 C Q s0)

theorem f14xE0x0xeq (C : CallT) (Q : Post) (s0 : St) (t3 t7 t8 t9 : Value) (s : St) : (f14xK5 C Q s0) (.exit 0) (ofL (undef :: undef :: undef :: t3 :: undef :: undef :: undef :: t7 :: t8 :: t9 :: undef :: undef :: undef :: undef :: undef :: undef :: undef :: [])) s = f14xE0x0 C Q s0 t3 s := by kernel_rfl

def f14xS (C : CallT) (Q : Post) (t0 : Value) (s0 : St) : Prop :=
  bindO (some (.map none)) (fun x2 s =>
  newW (mapN (tIsMap P 48) none) (fun x6 s =>
  bindO (some x6) (fun x3 s =>
  bindO (some t0) (fun x7 s =>
  bindO (lenR P 43 x7 s) (fun x8 s =>
  bindO (some (.int .i64 0)) (fun x9 s =>
  evC P C h14 f14xl0 0 (f14xK5 C Q s0) (ofL (undef :: undef :: undef :: x3 :: undef :: undef :: undef :: x7 :: x8 :: x9 :: undef :: undef :: undef :: undef :: undef :: undef :: undef :: [])) s) s) s) s) s) s) s0

theorem f14xeq (C : CallT) (Q : Post) (t0 : Value) (s0 : St) : bodyW P C wips 14 [t0] Q s0 = f14xS C Q t0 s0 := by kernel_rfl

/-! ### erewhile/calauto.Compile -/

noncomputable def f27xl0 : Code := (cL (cR (cL (cR (cR (cR (cF P 27)))))))
noncomputable def f27xb0 : Code := (cL (cL (cR (cL (cR (cR (cR (cF P 27))))))))

def f27xJ1 (C : CallT) (K : CPost) (I : Value → Value → Value → Value → Value → Value → St → Prop) (t2 t3 t4 t12 t13 t14 : Value) (s : St) : Prop :=
  bindO (binV P .add 3 t14 (.int .i64 1)) (fun x58 s =>
  bindO (some x58) (fun x14x1 s =>
  I t2 t3 t4 t12 t13 x14x1 s) s) s

def f27xJ2 (C : CallT) (K : CPost) (I : Value → Value → Value → Value → Value → Value → St → Prop) (t2 t3 t4 t7 t12 t13 t14 : Value) (s : St) : Prop :=
  bindO (ptrAdd (tField P 68 0) t4) (fun x52 s =>
  bindO (loadV (tAgg P 66) x52 s) (fun x53 s =>
  bindO (loadV (tAgg P 146) t7 s) (fun x54 s =>
  newW (bslN (tSlice P 66) 1 #[(0, x54)]) (fun x55 s =>
  apdW P (tSlice P 66) 66 x53 x55 (fun x56 s =>
  bindO (ptrAdd (tField P 68 0) t4) (fun x57 s =>
  storeW (tSize P 66) x57 x56 (fun _ s =>
  f27xJ1 C K I t2 t3 t4 t12 t13 t14 s) s) s) s) s) s) s) s

def f27xJ3 (C : CallT) (K : CPost) (I : Value → Value → Value → Value → Value → Value → St → Prop) (t2 t3 t4 t6 t12 t13 t14 : Value) (s : St) : Prop :=
  bindO (ptrAdd (tField P 142 2) t6) (fun x22 s =>
  bindO (loadV (tAgg P 3) x22 s) (fun x23 s =>
  bindO (buildV P 146 #[(1, x23)]) (fun x24 s =>
  newW (zeroN (tZero P 146)) (fun x7 s =>
  storeW (tSize P 146) x7 x24 (fun _ s =>
  bindO (ptrAdd (tField P 142 0) t6) (fun x25 s =>
  bindO (loadV (tAgg P 3) x25 s) (fun x26 s =>
  bindO (binV P .eql 3 x26 (.int .i64 1)) (fun x42 s =>
  bindO (some x42) (fun x41 s =>
  condW x41
  (bindO (ptrAdd (tField P 146 0) x7) (fun x43 s =>
  storeW (tSize P 144) x43 (fv 64) (fun _ s =>
  f27xJ2 C K I t2 t3 t4 x7 t12 t13 t14 s) s) s)
  (bindO (binV P .eql 3 x26 (.int .i64 2)) (fun x45 s =>
  bindO (some x45) (fun x44 s =>
  condW x44
  (bindO (mkFn 65 0 #[t6]) (fun x46 s =>
  bindO (ptrAdd (tField P 146 0) x7) (fun x47 s =>
  storeW (tSize P 144) x47 x46 (fun _ s =>
  f27xJ2 C K I t2 t3 t4 x7 t12 t13 t14 s) s) s) s)
  (bindO (binV P .eql 3 x26 (.int .i64 3)) (fun x49 s =>
  bindO (some x49) (fun x48 s =>
  condW x48
  (bindO (mkFn 67 0 #[t6]) (fun x50 s =>
  bindO (ptrAdd (tField P 146 0) x7) (fun x51 s =>
  storeW (tSize P 144) x51 x50 (fun _ s =>
  f27xJ2 C K I t2 t3 t4 x7 t12 t13 t14 s) s) s) s)
  (bindO (ptrAdd (tField P 68 2) t4) (fun x27 s =>
  bindO (loadV (tAgg P 4) x27 s) (fun x28 s =>
  bindO (unV .not x28) (fun x29 s =>
  bindO (some x29) (fun x30 s =>
  gW (boolIs false x30) (fun k s => bindO (ptrAdd (tField P 142 2) t6) k s) (fun x31 s =>
  gW (boolIs false x30) (fun k s => bindO (loadV (tAgg P 3) x31 s) k s) (fun x32 s =>
  gW (boolIs false x30) (fun k s => bindO (ptrAdd (tField P 68 1) t4) k s) (fun x33 s =>
  gW (boolIs false x30) (fun k s => bindO (loadV (tAgg P 3) x33 s) k s) (fun x34 s =>
  gW (boolIs false x30) (fun k s => bindO (binV P .lss 3 x32 x34) k s) (fun x35 s =>
  bindO (pickV x30 (.bool true) x35) (fun x36 s =>
  condW x36
  (bindO (ptrAdd (tField P 142 2) t6) (fun x37 s =>
  bindO (loadV (tAgg P 3) x37 s) (fun x38 s =>
  bindO (ptrAdd (tField P 68 1) t4) (fun x39 s =>
  storeW (tSize P 3) x39 x38 (fun _ s =>
  bindO (ptrAdd (tField P 68 2) t4) (fun x40 s =>
  storeW (tSize P 4) x40 (.bool true) (fun _ s =>
  f27xJ1 C K I t2 t3 t4 t12 t13 t14 s) s) s) s) s) s) s)
  (f27xJ1 C K I t2 t3 t4 t12 t13 t14 s)) s) s) s) s) s) s) s) s) s) s)) s) s)) s) s)) s) s) s) s) s) s) s) s) s

def f27xJ4 (C : CallT) (K : CPost) (I : Value → Value → Value → Value → Value → Value → St → Prop) (t2 t3 t4 t12 t13 t14 : Value) (s : St) : Prop :=
  bindO (idxAddr (tElem P 31) t12 t14) (fun x16 s =>
  bindO (loadV (tAgg P 142) x16 s) (fun x17 s =>
  newW (zeroN (tZero P 142)) (fun x6 s =>
  storeW (tSize P 142) x6 x17 (fun _ s =>
  bindO (loadV (tAgg P 142) x6 s) (fun x18 s =>
  callF P C (fv 63) [x18] (fun x19 s =>
  bindO (unV .not x19) (fun x20 s =>
  condW x20
  (bindO (buildV P 68 #[]) (fun x21 s =>
  storeW (tSize P 68) t2 x21 (fun _ s =>
  bindO (some (.int .i64 3)) (fun x3x2 s =>
  K .ret (ofL (undef :: undef :: t2 :: x3x2 :: t4 :: undef :: undef :: undef :: undef :: undef :: undef :: undef :: t12 :: t13 :: t14 :: undef :: undef :: undef :: undef :: undef :: undef :: undef :: undef :: undef :: undef :: undef :: undef :: undef :: undef :: undef :: undef :: undef :: undef :: undef :: undef :: undef :: undef :: undef :: undef :: undef :: undef :: undef :: undef :: undef :: undef :: undef :: undef :: undef :: undef :: undef :: undef :: undef :: undef :: undef :: undef :: undef :: undef :: undef :: undef :: undef :: [])) s) s) s) s)
  (f27xJ3 C K I t2 t3 t4 x6 t12 t13 t14 s)) s) s) s) s) s) s) s

def f27xB0 (C : CallT) (K : CPost) (I : Value → Value → Value → Value → Value → Value → St → Prop) (t2 t3 t4 t12 t13 t14 : Value) (s : St) : Prop :=
  bindO (binV P .lss 3 t14 t13) (fun x15 s =>
  condW x15
  (f27xJ4 C K I t2 t3 t4 t12 t13 t14 s)
  (K (.exit 0) (ofL (undef :: undef :: t2 :: t3 :: t4 :: undef :: undef :: undef :: undef :: undef :: undef :: undef :: t12 :: t13 :: t14 :: undef :: undef :: undef :: undef :: undef :: undef :: undef :: undef :: undef :: undef :: undef :: undef :: undef :: undef :: undef :: undef :: undef :: undef :: undef :: undef :: undef :: undef :: undef :: undef :: undef :: undef :: undef :: undef :: undef :: undef :: undef :: undef :: undef :: undef :: undef :: undef :: undef :: undef :: undef :: undef :: undef :: undef :: undef :: undef :: undef :: [])) s)) s

theorem f27xloop0 {C : CallT} {K : CPost} {t2 t3 t4 t12 t13 t14 : Value} {s : St} (h : ∀ I : Value → Value → Value → Value → Value → Value → St → Prop, (∀ t2 t3 t4 t12 t13 t14 s, f27xB0 C K I t2 t3 t4 t12 t13 t14 s → I t2 t3 t4 t12 t13 t14 s) → I t2 t3 t4 t12 t13 t14 s) :
    evC P C h27 f27xl0 0 K (ofL (undef :: undef :: t2 :: t3 :: t4 :: undef :: undef :: undef :: undef :: undef :: undef :: undef :: t12 :: t13 :: t14 :: undef :: undef :: undef :: undef :: undef :: undef :: undef :: undef :: undef :: undef :: undef :: undef :: undef :: undef :: undef :: undef :: undef :: undef :: undef :: undef :: undef :: undef :: undef :: undef :: undef :: undef :: undef :: undef :: undef :: undef :: undef :: undef :: undef :: undef :: undef :: undef :: undef :: undef :: undef :: undef :: undef :: undef :: undef :: undef :: undef :: [])) s := by
  have e : evC P C h27 f27xl0 0 K (ofL (undef :: undef :: t2 :: t3 :: t4 :: undef :: undef :: undef :: undef :: undef :: undef :: undef :: t12 :: t13 :: t14 :: undef :: undef :: undef :: undef :: undef :: undef :: undef :: undef :: undef :: undef :: undef :: undef :: undef :: undef :: undef :: undef :: undef :: undef :: undef :: undef :: undef :: undef :: undef :: undef :: undef :: undef :: undef :: undef :: undef :: undef :: undef :: undef :: undef :: undef :: undef :: undef :: undef :: undef :: undef :: undef :: undef :: undef :: undef :: undef :: undef :: [])) s = LoopC P C h27 f27xb0 0 K (undef :: undef :: t2 :: t3 :: t4 :: undef :: undef :: undef :: undef :: undef :: undef :: undef :: t12 :: t13 :: t14 :: undef :: undef :: undef :: undef :: undef :: undef :: undef :: undef :: undef :: undef :: undef :: undef :: undef :: undef :: undef :: undef :: undef :: undef :: undef :: undef :: undef :: undef :: undef :: undef :: undef :: undef :: undef :: undef :: undef :: undef :: undef :: undef :: undef :: undef :: undef :: undef :: undef :: undef :: undef :: undef :: undef :: undef :: undef :: undef :: undef :: []) s := by kernel_rfl
  rw [e]
  intro J hJ
  refine h (fun t2 t3 t4 t12 t13 t14 s => J (undef :: undef :: t2 :: t3 :: t4 :: undef :: undef :: undef :: undef :: undef :: undef :: undef :: t12 :: t13 :: t14 :: undef :: undef :: undef :: undef :: undef :: undef :: undef :: undef :: undef :: undef :: undef :: undef :: undef :: undef :: undef :: undef :: undef :: undef :: undef :: undef :: undef :: undef :: undef :: undef :: undef :: undef :: undef :: undef :: undef :: undef :: undef :: undef :: undef :: undef :: undef :: undef :: undef :: undef :: undef :: undef :: undef :: undef :: undef :: undef :: undef :: []) s) (fun t2 t3 t4 t12 t13 t14 s hb => hJ _ s ?_)
  have e2 : evC P C h27 f27xb0 0 (kLoop h27 0 J K) (ofL (undef :: undef :: t2 :: t3 :: t4 :: undef :: undef :: undef :: undef :: undef :: undef :: undef :: t12 :: t13 :: t14 :: undef :: undef :: undef :: undef :: undef :: undef :: undef :: undef :: undef :: undef :: undef :: undef :: undef :: undef :: undef :: undef :: undef :: undef :: undef :: undef :: undef :: undef :: undef :: undef :: undef :: undef :: undef :: undef :: undef :: undef :: undef :: undef :: undef :: undef :: undef :: undef :: undef :: undef :: undef :: undef :: undef :: undef :: undef :: undef :: undef :: [])) s = f27xB0 C K (fun t2 t3 t4 t12 t13 t14 s => J (undef :: undef :: t2 :: t3 :: t4 :: undef :: undef :: undef :: undef :: undef :: undef :: undef :: t12 :: t13 :: t14 :: undef :: undef :: undef :: undef :: undef :: undef :: undef :: undef :: undef :: undef :: undef :: undef :: undef :: undef :: undef :: undef :: undef :: undef :: undef :: undef :: undef :: undef :: undef :: undef :: undef :: undef :: undef :: undef :: undef :: undef :: undef :: undef :: undef :: undef :: undef :: undef :: undef :: undef :: undef :: undef :: undef :: undef :: undef :: undef :: undef :: []) s) t2 t3 t4 t12 t13 t14 s := by kernel_rfl
  rw [e2]
  exact hb

def f27xJ5 (C : CallT) (Q : Post) (s0 : St) (t2 t4 : Value) (s : St) : Prop :=
  bindO (loadV (tAgg P 68) t4 s) (fun x59 s =>
  storeW (tSize P 68) t2 x59 (fun _ s =>
  bindO (some (.int .i64 0)) (fun x3x3 s =>
  kEnd Q s0 (retV (consO (loadV (tAgg P 68) t2 s) (consO (some x3x3) (some [])))) s) s) s) s

def f27xE0x0 (C : CallT) (Q : Post) (s0 : St) (t2 t4 : Value) (s : St) : Prop :=
  f27xJ5 C Q s0 t2 t4 s

noncomputable def f27xK6 (C : CallT) (Q : Post) (s0 : St) : CPost := kSeq (evC P C h27 (cR (cR (cR (cR (cF P 27))))) 0 (kBody P (cN P 27) Q s0)) (kBody P (cN P 27) Q s0)

noncomputable def f27xK7 (C : CallT) (Q : Post) (s0 : St) : CPost := kBlock 0 (f27xK6 C Q s0)

theorem f27xE0x0xeq (C : CallT) (Q : Post) (s0 : St) (t2 t3 t4 t12 t13 t14 : Value) (s : St) : (f27xK7 C Q s0) (.exit 0) (ofL (undef :: undef :: t2 :: t3 :: t4 :: undef :: undef :: undef :: undef :: undef :: undef :: undef :: t12 :: t13 :: t14 :: undef :: undef :: undef :: undef :: undef :: undef :: undef :: undef :: undef :: undef :: undef :: undef :: undef :: undef :: undef :: undef :: undef :: undef :: undef :: undef :: undef :: undef :: undef :: undef :: undef :: undef :: undef :: undef :: undef :: undef :: undef :: undef :: undef :: undef :: undef :: undef :: undef :: undef :: undef :: undef :: undef :: undef :: undef :: undef :: undef :: [])) s = f27xE0x0 C Q s0 t2 t4 s := by kernel_rfl

def f27xE0xret (C : CallT) (Q : Post) (s0 : St) (t2 t3 : Value) (s : St) : Prop :=
  kEnd Q s0 (retV (consO (loadV (tAgg P 68) t2 s) (consO (some t3) (some [])))) s

theorem f27xE0xret_eq (C : CallT) (Q : Post) (s0 : St) (t2 t3 t4 t12 t13 t14 : Value) (s : St) : (f27xK7 C Q s0) .ret (ofL (undef :: undef :: t2 :: t3 :: t4 :: undef :: undef :: undef :: undef :: undef :: undef :: undef :: t12 :: t13 :: t14 :: undef :: undef :: undef :: undef :: undef :: undef :: undef :: undef :: undef :: undef :: undef :: undef :: undef :: undef :: undef :: undef :: undef :: undef :: undef :: undef :: undef :: undef :: undef :: undef :: undef :: undef :: undef :: undef :: undef :: undef :: undef :: undef :: undef :: undef :: undef :: undef :: undef :: undef :: undef :: undef :: undef :: undef :: undef :: undef :: undef :: [])) s = f27xE0xret C Q s0 t2 t3 s := by kernel_rfl

def f27xJ8 (C : CallT) (Q : Post) (s0 : St) (t0 t2 t3 : Value) (s : St) : Prop :=
  newW (zeroN (tZero P 68)) (fun x4 s =>
  bindO (some t0) (fun x12 s =>
  bindO (lenR P 31 x12 s) (fun x13 s =>
  bindO (some (.int .i64 0)) (fun x14 s =>
  evC P C h27 f27xl0 0 (f27xK7 C Q s0) (ofL (undef :: undef :: t2 :: t3 :: x4 :: undef :: undef :: undef :: undef :: undef :: undef :: undef :: x12 :: x13 :: x14 :: undef :: undef :: undef :: undef :: undef :: undef :: undef :: undef :: undef :: undef :: undef :: undef :: undef :: undef :: undef :: undef :: undef :: undef :: undef :: undef :: undef :: undef :: undef :: undef :: undef :: undef :: undef :: undef :: undef :: undef :: undef :: undef :: undef :: undef :: undef :: undef :: undef :: undef :: undef :: undef :: undef :: undef :: undef :: undef :: undef :: [])) s) s) s) s) s

def f27xS (C : CallT) (Q : Post) (t0 : Value) (s0 : St) : Prop :=
  newW (zeroN (tZero P 68)) (fun x2 s =>
  bindO (some (.int .i64 0)) (fun x3 s =>
  bindO (some t0) (fun x8 s =>
  bindO (lenR P 31 x8 s) (fun x9 s =>
  bindO (binV P .gtr 3 x9 (.int .i64 16)) (fun x10 s =>
  condW x10
  (bindO (buildV P 68 #[]) (fun x11 s =>
  storeW (tSize P 68) x2 x11 (fun _ s =>
  bindO (some (.int .i64 6)) (fun x3x1 s =>
  kEnd Q s0 (retV (consO (loadV (tAgg P 68) x2 s) (consO (some x3x1) (some [])))) s) s) s) s)
  (f27xJ8 C Q s0 t0 x2 x3 s)) s) s) s) s) s0

theorem f27xeq (C : CallT) (Q : Post) (t0 : Value) (s0 : St) : bodyW P C wips 27 [t0] Q s0 = f27xS C Q t0 s0 := by kernel_rfl

/-! ### erewhile/moment.New -/

def f28xS (C : CallT) (Q : Post) (s0 : St) : Prop :=
  bindO (some (.pointer none)) (fun x0 s =>
  bindO (buildV P 149 #[]) (fun x1 s =>
  newW (boxN x1) (fun x2 s =>
  bindO (some x2) (fun x0x1 s =>
  kEnd Q s0 (retV (consO (some x0x1) (some []))) s) s) s) s) s0

theorem f28xeq (C : CallT) (Q : Post) (s0 : St) : bodyW P C wips 28 [] Q s0 = f28xS C Q  s0 := by kernel_rfl

/-! ### erewhile/hold.New -/

def f29xS (C : CallT) (Q : Post) (s0 : St) : Prop :=
  bindO (some (.pointer none)) (fun x0 s =>
  bindO (buildV P 152 #[]) (fun x1 s =>
  newW (boxN x1) (fun x2 s =>
  bindO (some x2) (fun x0x1 s =>
  kEnd Q s0 (retV (consO (some x0x1) (some []))) s) s) s) s) s0

theorem f29xeq (C : CallT) (Q : Post) (s0 : St) : bodyW P C wips 29 [] Q s0 = f29xS C Q  s0 := by kernel_rfl

/-! ### erewhile/branch.New -/

def f30xS (C : CallT) (Q : Post) (s0 : St) : Prop :=
  bindO (some (.pointer none)) (fun x0 s =>
  bindO (buildV P 157 #[]) (fun x1 s =>
  newW (boxN x1) (fun x2 s =>
  bindO (some x2) (fun x0x1 s =>
  kEnd Q s0 (retV (consO (some x0x1) (some []))) s) s) s) s) s0

theorem f30xeq (C : CallT) (Q : Post) (s0 : St) : bodyW P C wips 30 [] Q s0 = f30xS C Q  s0 := by kernel_rfl

/-! ### (*erewhile/keytree.Tree).find -/

def f31xJ1 (C : CallT) (Q : Post) (s0 : St) (t6 : Value) (s : St) : Prop :=
  bindO (some t6) (fun x52 s =>
  bindO (binV P .sub 3 x52 (.int .i64 1)) (fun x53 s =>
  bindO (some x53) (fun x4x4 s =>
  bindO (some (.bool true)) (fun x5x4 s =>
  kEnd Q s0 (retV (consO (some x4x4) (consO (some x5x4) (some [])))) s) s) s) s) s

def f31xJ2 (C : CallT) (Q : Post) (s0 : St) (t0 t1 t6 : Value) (s : St) : Prop :=
  optW (some t6) (fun x26 =>
  optW (binV P .eql 3 x26 (.int .i64 0)) (fun x27 =>
  optW (some x27) (fun x28 =>
  optW (gO (boolIs false x28) (some t1)) (fun x29 =>
  optW (gO (boolIs false x28) (some t0)) (fun x30 =>
  optW (gO (boolIs false x28) (nilV x30)) (fun x31 =>
  optW (gO (boolIs false x28) (ptrAdd (tField P 86 1) x31)) (fun x32 =>
  optW (gO (boolIs false x28) (loadV (tAgg P 84) x32 s)) (fun x33 =>
  optW (gO (boolIs false x28) (some t6)) (fun x34 =>
  optW (gO (boolIs false x28) (binV P .sub 3 x34 (.int .i64 1))) (fun x35 =>
  optW (gO (boolIs false x28) (idxAddr (tElem P 84) x33 x35)) (fun x36 =>
  optW (gO (boolIs false x28) (ptrAdd (tField P 83 1) x36)) (fun x37 =>
  optW (gO (boolIs false x28) (loadV (tAgg P 37) x37 s)) (fun x38 =>
  optW (gO (boolIs false x28) (binV P .sub 37 x29 x38)) (fun x39 =>
  optW (gO (boolIs false x28) (some t0)) (fun x40 =>
  optW (gO (boolIs false x28) (nilV x40)) (fun x41 =>
  optW (gO (boolIs false x28) (ptrAdd (tField P 86 1) x41)) (fun x42 =>
  optW (gO (boolIs false x28) (loadV (tAgg P 84) x42 s)) (fun x43 =>
  optW (gO (boolIs false x28) (some t6)) (fun x44 =>
  optW (gO (boolIs false x28) (binV P .sub 3 x44 (.int .i64 1))) (fun x45 =>
  optW (gO (boolIs false x28) (idxAddr (tElem P 84) x43 x45)) (fun x46 =>
  optW (gO (boolIs false x28) (ptrAdd (tField P 83 0) x46)) (fun x47 =>
  optW (gO (boolIs false x28) (loadV (tAgg P 3) x47 s)) (fun x48 =>
  gW (boolIs false x28) (fun k s => callF P C (fv 69) [x48] k s) (fun x49 s =>
  chkW (boolIs false x28) ((loadV (tAgg P 84) x32 s) = some x33) (chkW (boolIs false x28) ((loadV (tAgg P 37) x37 s) = some x38) (optW (gO (boolIs false x28) (binV P .geq 37 x39 x49)) (fun x50 =>
  optW (pickV x28 (.bool true) x50) (fun x51 =>
  condW x51
  (bindO (some (.int .i64 0)) (fun x4x3 s =>
  bindO (some (.bool false)) (fun x5x3 s =>
  kEnd Q s0 (retV (consO (some x4x3) (consO (some x5x3) (some [])))) s) s) s)
  (f31xJ1 C Q s0 t6 s)))))) s)))))))))))))))))))))))

def f31xJ3 (C : CallT) (Q : Post) (s0 : St) (t0 t1 : Value) (s : St) : Prop :=
  bindO (some t0) (fun x16 s =>
  bindO (nilV x16) (fun x17 s =>
  bindO (ptrAdd (tField P 86 1) x17) (fun x18 s =>
  bindO (loadV (tAgg P 84) x18 s) (fun x19 s =>
  bindO (some t1) (fun x20 s =>
  callF P C (fv 70) [x19, x20, (fv 71)] (fun x21 s =>
  bindO (some x21) (fun x15 s =>
  bindO (extV x15 0) (fun x22 s =>
  bindO (extV x15 1) (fun x23 s =>
  bindO (some x22) (fun x6 s =>
  bindO (some x23) (fun x7 s =>
  bindO (some x7) (fun x24 s =>
  condW x24
  (bindO (some x6) (fun x25 s =>
  bindO (some x25) (fun x4x2 s =>
  bindO (some (.bool true)) (fun x5x2 s =>
  kEnd Q s0 (retV (consO (some x4x2) (consO (some x5x2) (some [])))) s) s) s) s)
  (f31xJ2 C Q s0 t0 t1 x6 s)) s) s) s) s) s) s) s) s) s) s) s) s

def f31xS (C : CallT) (Q : Post) (t0 t1 : Value) (s0 : St) : Prop :=
  bindO (some (.int .i64 0)) (fun x4 s =>
  bindO (some (.bool false)) (fun x5 s =>
  bindO (some t0) (fun x8 s =>
  bindO (binV P .eql 35 x8 (.pointer none)) (fun x9 s =>
  bindO (some x9) (fun x10 s =>
  gW (boolIs false x10) (fun k s => bindO (some t1) k s) (fun x11 s =>
  gW (boolIs false x10) (fun k s => callF P C (fv 69) [(.int .i64 0)] k s) (fun x12 s =>
  gW (boolIs false x10) (fun k s => bindO (binV P .geq 37 x11 x12) k s) (fun x13 s =>
  bindO (pickV x10 (.bool true) x13) (fun x14 s =>
  condW x14
  (bindO (some (.int .i64 0)) (fun x4x1 s =>
  bindO (some (.bool false)) (fun x5x1 s =>
  kEnd Q s0 (retV (consO (some x4x1) (consO (some x5x1) (some [])))) s) s) s)
  (f31xJ3 C Q s0 t0 t1 s)) s) s) s) s) s) s) s) s) s0

theorem f31xeq (C : CallT) (Q : Post) (t0 t1 : Value) (s0 : St) : bodyW P C wips 31 [t0, t1] Q s0 = f31xS C Q t0 t1 s0 := by kernel_rfl

/-! ### (*erewhile/keytree.Tree).down -/

noncomputable def f32xl0 : Code := (cL (cL (cR (cR (cF P 32)))))
noncomputable def f32xb0 : Code := (cL (cL (cL (cR (cR (cF P 32))))))

def f32xJ1 (C : CallT) (K : CPost) (I : Value → Value → Value → Value → Value → St → Prop) (t2 t3 t5 t8 t9 t10 t11 : Value) (s : St) : Prop :=
  bindO (some t3) (fun x28 s =>
  bindO (loadV (tAgg P 83) t11 s) (fun x29 s =>
  callF P C x28 [x29] (fun x30 s =>
  bindO (loadV (tAgg P 83) t10 s) (fun x31 s =>
  storeW (tSize P 83) t5 x31 (fun _ s =>
  I t2 t3 t5 t8 t9 s) s) s) s) s) s

def f32xJ2 (C : CallT) (K : CPost) (I : Value → Value → Value → Value → Value → St → Prop) (t2 t3 t5 t8 t9 : Value) (s : St) : Prop :=
  bindO (some t9) (fun x17 s =>
  bindO (loadV (tAgg P 83) t5 s) (fun x18 s =>
  callF P C x17 [x18] (fun x19 s =>
  bindO (some x19) (fun x16 s =>
  bindO (extV x16 0) (fun x20 s =>
  bindO (extV x16 1) (fun x21 s =>
  newW (zeroN (tZero P 83)) (fun x10 s =>
  newW (zeroN (tZero P 83)) (fun x11 s =>
  storeW (tSize P 83) x10 x20 (fun _ s =>
  storeW (tSize P 83) x11 x21 (fun _ s =>
  bindO (some t2) (fun x22 s =>
  bindO (ptrAdd (tField P 83 1) x11) (fun x23 s =>
  bindO (loadV (tAgg P 37) x23 s) (fun x24 s =>
  bindO (binV P .geq 37 x22 x24) (fun x25 s =>
  condW x25
  (bindO (loadV (tAgg P 83) x11 s) (fun x26 s =>
  bindO (loadV (tAgg P 83) x10 s) (fun x27 s =>
  storeW (tSize P 83) x10 x26 (fun _ s =>
  storeW (tSize P 83) x11 x27 (fun _ s =>
  f32xJ1 C K I t2 t3 t5 t8 t9 x10 x11 s) s) s) s) s)
  (f32xJ1 C K I t2 t3 t5 t8 t9 x10 x11 s)) s) s) s) s) s) s) s) s) s) s) s) s) s) s

def f32xB0 (C : CallT) (K : CPost) (I : Value → Value → Value → Value → Value → St → Prop) (t2 t3 t5 t8 t9 : Value) (s : St) : Prop :=
  bindO (ptrAdd (tField P 83 0) t5) (fun x13 s =>
  bindO (loadV (tAgg P 3) x13 s) (fun x14 s =>
  bindO (binV P .lss 3 x14 (.int .i64 17)) (fun x15 s =>
  condW x15
  (f32xJ2 C K I t2 t3 t5 t8 t9 s)
  (K (.exit 0) (ofL (undef :: undef :: t2 :: t3 :: undef :: t5 :: undef :: undef :: t8 :: t9 :: undef :: undef :: undef :: undef :: undef :: undef :: undef :: undef :: undef :: undef :: undef :: undef :: undef :: undef :: undef :: undef :: undef :: undef :: undef :: undef :: undef :: undef :: undef :: undef :: [])) s)) s) s) s

theorem f32xloop0 {C : CallT} {K : CPost} {t2 t3 t5 t8 t9 : Value} {s : St} (h : ∀ I : Value → Value → Value → Value → Value → St → Prop, (∀ t2 t3 t5 t8 t9 s, f32xB0 C K I t2 t3 t5 t8 t9 s → I t2 t3 t5 t8 t9 s) → I t2 t3 t5 t8 t9 s) :
    evC P C h32 f32xl0 0 K (ofL (undef :: undef :: t2 :: t3 :: undef :: t5 :: undef :: undef :: t8 :: t9 :: undef :: undef :: undef :: undef :: undef :: undef :: undef :: undef :: undef :: undef :: undef :: undef :: undef :: undef :: undef :: undef :: undef :: undef :: undef :: undef :: undef :: undef :: undef :: undef :: [])) s := by
  have e : evC P C h32 f32xl0 0 K (ofL (undef :: undef :: t2 :: t3 :: undef :: t5 :: undef :: undef :: t8 :: t9 :: undef :: undef :: undef :: undef :: undef :: undef :: undef :: undef :: undef :: undef :: undef :: undef :: undef :: undef :: undef :: undef :: undef :: undef :: undef :: undef :: undef :: undef :: undef :: undef :: [])) s = LoopC P C h32 f32xb0 0 K (undef :: undef :: t2 :: t3 :: undef :: t5 :: undef :: undef :: t8 :: t9 :: undef :: undef :: undef :: undef :: undef :: undef :: undef :: undef :: undef :: undef :: undef :: undef :: undef :: undef :: undef :: undef :: undef :: undef :: undef :: undef :: undef :: undef :: undef :: undef :: []) s := by kernel_rfl
  rw [e]
  intro J hJ
  refine h (fun t2 t3 t5 t8 t9 s => J (undef :: undef :: t2 :: t3 :: undef :: t5 :: undef :: undef :: t8 :: t9 :: undef :: undef :: undef :: undef :: undef :: undef :: undef :: undef :: undef :: undef :: undef :: undef :: undef :: undef :: undef :: undef :: undef :: undef :: undef :: undef :: undef :: undef :: undef :: undef :: []) s) (fun t2 t3 t5 t8 t9 s hb => hJ _ s ?_)
  have e2 : evC P C h32 f32xb0 0 (kLoop h32 0 J K) (ofL (undef :: undef :: t2 :: t3 :: undef :: t5 :: undef :: undef :: t8 :: t9 :: undef :: undef :: undef :: undef :: undef :: undef :: undef :: undef :: undef :: undef :: undef :: undef :: undef :: undef :: undef :: undef :: undef :: undef :: undef :: undef :: undef :: undef :: undef :: undef :: [])) s = f32xB0 C K (fun t2 t3 t5 t8 t9 s => J (undef :: undef :: t2 :: t3 :: undef :: t5 :: undef :: undef :: t8 :: t9 :: undef :: undef :: undef :: undef :: undef :: undef :: undef :: undef :: undef :: undef :: undef :: undef :: undef :: undef :: undef :: undef :: undef :: undef :: undef :: undef :: undef :: undef :: undef :: undef :: []) s) t2 t3 t5 t8 t9 s := by kernel_rfl
  rw [e2]
  exact hb

def f32xJ3 (C : CallT) (Q : Post) (s0 : St) (t5 t8 : Value) (s : St) : Prop :=
  bindO (ptrAdd (tField P 83 2) t5) (fun x32 s =>
  bindO (loadV (tAgg P 30) x32 s) (fun x33 s =>
  storeW (tSize P 30) t8 x33 (fun _ s =>
  kEnd Q s0 (retV (consO (loadV (tAgg P 30) t8 s) (some []))) s) s) s) s

def f32xE0x0 (C : CallT) (Q : Post) (s0 : St) (t5 t8 : Value) (s : St) : Prop :=
  f32xJ3 C Q s0 t5 t8 s

noncomputable def f32xK4 (C : CallT) (Q : Post) (s0 : St) : CPost := kSeq (evC P C h32 (cR (cR (cR (cF P 32)))) 0 (kBody P (cN P 32) Q s0)) (kBody P (cN P 32) Q s0)

noncomputable def f32xK5 (C : CallT) (Q : Post) (s0 : St) : CPost := kBlock 0 (f32xK4 C Q s0)

theorem f32xE0x0xeq (C : CallT) (Q : Post) (s0 : St) (t2 t3 t5 t8 t9 : Value) (s : St) : (f32xK5 C Q s0) (.exit 0) (ofL (undef :: undef :: t2 :: t3 :: undef :: t5 :: undef :: undef :: t8 :: t9 :: undef :: undef :: undef :: undef :: undef :: undef :: undef :: undef :: undef :: undef :: undef :: undef :: undef :: undef :: undef :: undef :: undef :: undef :: undef :: undef :: undef :: undef :: undef :: undef :: [])) s = f32xE0x0 C Q s0 t5 t8 s := by kernel_rfl

def f32xS (C : CallT) (Q : Post) (t0 t1 t2 t3 : Value) (s0 : St) : Prop :=
  newW (boxN t0) (fun x4 s =>
  newW (boxN t1) (fun x5 s =>
  newW (zeroN (tZero P 30)) (fun x8 s =>
  bindO (mkFn 72 0 #[x4]) (fun x12 s =>
  bindO (some x12) (fun x9 s =>
  evC P C h32 f32xl0 0 (f32xK5 C Q s0) (ofL (undef :: undef :: t2 :: t3 :: undef :: x5 :: undef :: undef :: x8 :: x9 :: undef :: undef :: undef :: undef :: undef :: undef :: undef :: undef :: undef :: undef :: undef :: undef :: undef :: undef :: undef :: undef :: undef :: undef :: undef :: undef :: undef :: undef :: undef :: undef :: [])) s) s) s) s) s) s0

theorem f32xeq (C : CallT) (Q : Post) (t0 t1 t2 t3 : Value) (s0 : St) : bodyW P C wips 32 [t0, t1, t2, t3] Q s0 = f32xS C Q t0 t1 t2 t3 s0 := by kernel_rfl

/-! ### (*erewhile/keytree.Tree).Puncture$1 -/

def f33xS (C : CallT) (Q : Post) (t0 t1 : Value) (s0 : St) : Prop :=
  newW (boxN t0) (fun x2 s =>
  bindO (loadV (tAgg P 84) t1 s) (fun x3 s =>
  bindO (loadV (tAgg P 83) x2 s) (fun x4 s =>
  newW (bslN (tSlice P 84) 1 #[(0, x4)]) (fun x5 s =>
  apdW P (tSlice P 84) 84 x3 x5 (fun x6 s =>
  storeW (tSize P 84) t1 x6 (fun _ s =>
  kEnd Q s0 (retV (some [])) s) s) s) s) s) s) s0

theorem f33xeq (C : CallT) (Q : Post) (t0 t1 : Value) (s0 : St) : bodyW P C wips 33 [t0, t1] Q s0 = f33xS C Q t0 t1 s0 := by kernel_rfl

/-! ### (*erewhile/keytree.Tree).Puncture$2 -/

def f35xS (C : CallT) (Q : Post) (t0 t1 : Value) (s0 : St) : Prop :=
  newW (boxN t0) (fun x2 s =>
  newW (boxN t1) (fun x3 s =>
  bindO (some (.int .i64 0)) (fun x4 s =>
  bindO (ptrAdd (tField P 83 1) x2) (fun x5 s =>
  bindO (loadV (tAgg P 37) x5 s) (fun x6 s =>
  bindO (ptrAdd (tField P 83 1) x3) (fun x7 s =>
  bindO (loadV (tAgg P 37) x7 s) (fun x8 s =>
  callF P C (fv 36) [x6, x8] (fun x9 s =>
  bindO (some x9) (fun x4x1 s =>
  kEnd Q s0 (retV (consO (some x4x1) (some []))) s) s) s) s) s) s) s) s) s) s0

theorem f35xeq (C : CallT) (Q : Post) (t0 t1 : Value) (s0 : St) : bodyW P C wips 35 [t0, t1] Q s0 = f35xS C Q t0 t1 s0 := by kernel_rfl

/-! ### cmp.Compare[uint64] -/

def f36xJ1 (C : CallT) (Q : Post) (s0 : St) (s : St) : Prop :=
  bindO (some (.int .i64 (-1))) (fun x4x2 s =>
  kEnd Q s0 (retV (consO (some x4x2) (some []))) s) s

def f36xJ2 (C : CallT) (Q : Post) (s0 : St) (s : St) : Prop :=
  bindO (some (.int .i64 0)) (fun x4x6 s =>
  kEnd Q s0 (retV (consO (some x4x6) (some []))) s) s

def f36xJ3 (C : CallT) (Q : Post) (s0 : St) (t0 t1 : Value) (s : St) : Prop :=
  bindO (some t0) (fun x17 s =>
  bindO (some t1) (fun x18 s =>
  bindO (binV P .gtr 37 x17 x18) (fun x19 s =>
  condW x19
  (bindO (some (.int .i64 1)) (fun x4x5 s =>
  kEnd Q s0 (retV (consO (some x4x5) (some []))) s) s)
  (f36xJ2 C Q s0  s)) s) s) s

def f36xJ4 (C : CallT) (Q : Post) (s0 : St) (t0 t1 : Value) (s : St) : Prop :=
  bindO (some t0) (fun x14 s =>
  bindO (some t1) (fun x15 s =>
  bindO (binV P .lss 37 x14 x15) (fun x16 s =>
  condW x16
  (bindO (some (.int .i64 (-1))) (fun x4x4 s =>
  kEnd Q s0 (retV (consO (some x4x4) (some []))) s) s)
  (f36xJ3 C Q s0 t0 t1 s)) s) s) s

def f36xJ5 (C : CallT) (Q : Post) (s0 : St) (t0 t1 t6 : Value) (s : St) : Prop :=
  bindO (some t6) (fun x13 s =>
  condW x13
  (bindO (some (.int .i64 1)) (fun x4x3 s =>
  kEnd Q s0 (retV (consO (some x4x3) (some []))) s) s)
  (f36xJ4 C Q s0 t0 t1 s)) s

def f36xS (C : CallT) (Q : Post) (t0 t1 : Value) (s0 : St) : Prop :=
  bindO (some (.int .i64 0)) (fun x4 s =>
  bindO (some t0) (fun x7 s =>
  callF P C (fv 75) [x7] (fun x8 s =>
  bindO (some x8) (fun x5 s =>
  bindO (some t1) (fun x9 s =>
  callF P C (fv 75) [x9] (fun x10 s =>
  bindO (some x10) (fun x6 s =>
  bindO (some x5) (fun x11 s =>
  condW x11
  (bindO (some x6) (fun x12 s =>
  condW x12
  (bindO (some (.int .i64 0)) (fun x4x1 s =>
  kEnd Q s0 (retV (consO (some x4x1) (some []))) s) s)
  (f36xJ1 C Q s0  s)) s)
  (f36xJ5 C Q s0 t0 t1 x6 s)) s) s) s) s) s) s) s) s0

theorem f36xeq (C : CallT) (Q : Post) (t0 t1 : Value) (s0 : St) : bodyW P C wips 36 [t0, t1] Q s0 = f36xS C Q t0 t1 s0 := by kernel_rfl

/-! ### slices.Insert[[]erewhile/keytree.Held,erewhile/keytree.Held] -/

def f37xJ1 (C : CallT) (Q : Post) (s0 : St) (t0 t1 t2 t7 t8 : Value) (s : St) : Prop :=
  bindO (some t0) (fun x84 s =>
  bindO (some t8) (fun x85 s =>
  bindO (slcV P 84 x84 (some x85) none none s) (fun x86 s =>
  bindO (some t2) (fun x87 s =>
  cpyW (tSlice P 84) x86 x87 (fun x88 s =>
  bindO (some t0) (fun x89 s =>
  bindO (some t1) (fun x90 s =>
  bindO (slcV P 84 x89 (some x90) none none s) (fun x91 s =>
  bindO (some t7) (fun x92 s =>
  callF P C (fv 77) [x91, x92] (fun x93 s =>
  bindO (some t0) (fun x94 s =>
  bindO (some x94) (fun x6x5 s =>
  kEnd Q s0 (retV (consO (some x6x5) (some []))) s) s) s) s) s) s) s) s) s) s) s) s) s

def f37xJ2 (C : CallT) (Q : Post) (s0 : St) (t0 t1 t2 t7 t8 : Value) (s : St) : Prop :=
  bindO (some t0) (fun x56 s =>
  bindO (some t8) (fun x57 s =>
  bindO (some t7) (fun x58 s =>
  bindO (binV P .add 3 x57 x58) (fun x59 s =>
  bindO (slcV P 84 x56 none (some x59) none s) (fun x60 s =>
  bindO (some x60) (fun x0 s =>
  bindO (some t2) (fun x61 s =>
  bindO (some x0) (fun x62 s =>
  bindO (some t1) (fun x63 s =>
  bindO (some t7) (fun x64 s =>
  bindO (binV P .add 3 x63 x64) (fun x65 s =>
  bindO (slcV P 84 x62 (some x65) none none s) (fun x66 s =>
  callF P C (fv 76) [x61, x66] (fun x67 s =>
  bindO (unV .not x67) (fun x68 s =>
  condW x68
  (optW (some x0) (fun x69 =>
  optW (some t1) (fun x70 =>
  optW (some t7) (fun x71 =>
  optW (binV P .add 3 x70 x71) (fun x72 =>
  optW (slcV P 84 x69 (some x72) none none s) (fun x73 =>
  optW (some x0) (fun x74 =>
  optW (some t1) (fun x75 =>
  optW (slcV P 84 x74 (some x75) none none s) (fun x76 =>
  cpyW (tSlice P 84) x73 x76 (fun x77 s =>
  bindO (some x0) (fun x78 s =>
  bindO (some t1) (fun x79 s =>
  bindO (slcV P 84 x78 (some x79) none none s) (fun x80 s =>
  bindO (some t2) (fun x81 s =>
  cpyW (tSlice P 84) x80 x81 (fun x82 s =>
  bindO (some x0) (fun x83 s =>
  bindO (some x83) (fun x6x4 s =>
  kEnd Q s0 (retV (consO (some x6x4) (some []))) s) s) s) s) s) s) s) s) s)))))))))
  (f37xJ1 C Q s0 x0 t1 t2 t7 t8 s)) s) s) s) s) s) s) s) s) s) s) s) s) s) s

def f37xJ3 (C : CallT) (Q : Post) (s0 : St) (t0 t1 t2 t7 t8 : Value) (s : St) : Prop :=
  bindO (some t8) (fun x26 s =>
  bindO (some t7) (fun x27 s =>
  bindO (binV P .add 3 x26 x27) (fun x28 s =>
  bindO (some t0) (fun x29 s =>
  capW P 84 x29 (fun x30 s =>
  bindO (binV P .gtr 3 x28 x30) (fun x31 s =>
  condW x31
  (bindO (some t0) (fun x32 s =>
  bindO (some t1) (fun x33 s =>
  bindO (slcV P 84 x32 none (some x33) none s) (fun x34 s =>
  bindO (some t8) (fun x35 s =>
  bindO (some t7) (fun x36 s =>
  bindO (binV P .add 3 x35 x36) (fun x37 s =>
  bindO (some t1) (fun x38 s =>
  bindO (binV P .sub 3 x37 x38) (fun x39 s =>
  apdW P (tSlice P 84) 3 x34 x39 (fun x40 s =>
  bindO (some x40) (fun x9 s =>
  bindO (some x9) (fun x41 s =>
  bindO (some t1) (fun x42 s =>
  bindO (slcV P 84 x41 (some x42) none none s) (fun x43 s =>
  bindO (some t2) (fun x44 s =>
  cpyW (tSlice P 84) x43 x44 (fun x45 s =>
  optW (some x9) (fun x46 =>
  optW (some t1) (fun x47 =>
  optW (some t7) (fun x48 =>
  optW (binV P .add 3 x47 x48) (fun x49 =>
  optW (slcV P 84 x46 (some x49) none none s) (fun x50 =>
  optW (some t0) (fun x51 =>
  optW (some t1) (fun x52 =>
  optW (slcV P 84 x51 (some x52) none none s) (fun x53 =>
  cpyW (tSlice P 84) x50 x53 (fun x54 s =>
  bindO (some x9) (fun x55 s =>
  bindO (some x55) (fun x6x3 s =>
  kEnd Q s0 (retV (consO (some x6x3) (some []))) s) s) s) s))))))))) s) s) s) s) s) s) s) s) s) s) s) s) s) s) s)
  (f37xJ2 C Q s0 t0 t1 t2 t7 t8 s)) s) s) s) s) s) s

def f37xJ4 (C : CallT) (Q : Post) (s0 : St) (t0 t1 t2 t7 : Value) (s : St) : Prop :=
  bindO (some t0) (fun x18 s =>
  bindO (lenR P 84 x18 s) (fun x19 s =>
  bindO (some x19) (fun x8 s =>
  bindO (some t1) (fun x20 s =>
  bindO (some x8) (fun x21 s =>
  bindO (binV P .eql 3 x20 x21) (fun x22 s =>
  condW x22
  (bindO (some t0) (fun x23 s =>
  bindO (some t2) (fun x24 s =>
  apdW P (tSlice P 84) 84 x23 x24 (fun x25 s =>
  bindO (some x25) (fun x6x2 s =>
  kEnd Q s0 (retV (consO (some x6x2) (some []))) s) s) s) s) s)
  (f37xJ3 C Q s0 t0 t1 t2 t7 x8 s)) s) s) s) s) s) s

def f37xS (C : CallT) (Q : Post) (t0 t1 t2 : Value) (s0 : St) : Prop :=
  bindO (some (.slice none 0 0)) (fun x6 s =>
  bindO (some t0) (fun x10 s =>
  bindO (some t1) (fun x11 s =>
  bindO (slcV P 84 x10 (some x11) none none s) (fun x12 s =>
  bindO (some t2) (fun x13 s =>
  bindO (lenR P 84 x13 s) (fun x14 s =>
  bindO (some x14) (fun x7 s =>
  bindO (some x7) (fun x15 s =>
  bindO (binV P .eql 3 x15 (.int .i64 0)) (fun x16 s =>
  condW x16
  (bindO (some t0) (fun x17 s =>
  bindO (some x17) (fun x6x1 s =>
  kEnd Q s0 (retV (consO (some x6x1) (some []))) s) s) s)
  (f37xJ4 C Q s0 t0 t1 t2 x7 s)) s) s) s) s) s) s) s) s) s0

theorem f37xeq (C : CallT) (Q : Post) (t0 t1 t2 : Value) (s0 : St) : bodyW P C wips 37 [t0, t1, t2] Q s0 = f37xS C Q t0 t1 t2 s0 := by kernel_rfl

/-! ### slices.Delete[[]erewhile/keytree.Held,erewhile/keytree.Held] -/

def f38xJ1 (C : CallT) (Q : Post) (s0 : St) (t0 t1 t2 : Value) (s : St) : Prop :=
  bindO (some t0) (fun x18 s =>
  bindO (lenR P 84 x18 s) (fun x19 s =>
  bindO (some x19) (fun x7 s =>
  optW (some t0) (fun x20 =>
  optW (some t1) (fun x21 =>
  optW (slcV P 84 x20 none (some x21) none s) (fun x22 =>
  optW (some t0) (fun x23 =>
  optW (some t2) (fun x24 =>
  optW (slcV P 84 x23 (some x24) none none s) (fun x25 =>
  apdW P (tSlice P 84) 84 x22 x25 (fun x26 s =>
  optW (some x26) (fun x0 =>
  bindO (some x0) (fun x27 s =>
  bindO (some x0) (fun x28 s =>
  bindO (lenR P 84 x28 s) (fun x29 s =>
  bindO (some x7) (fun x30 s =>
  bindO (slcV P 84 x27 (some x29) (some x30) none s) (fun x31 s =>
  clearW P 84 x31 (fun _ s =>
  bindO (some x0) (fun x32 s =>
  bindO (some x32) (fun x6x2 s =>
  kEnd Q s0 (retV (consO (some x6x2) (some []))) s) s) s) s) s) s) s) s) s)) s))))))) s) s) s

def f38xS (C : CallT) (Q : Post) (t0 t1 t2 : Value) (s0 : St) : Prop :=
  bindO (some (.slice none 0 0)) (fun x6 s =>
  bindO (some t0) (fun x8 s =>
  bindO (some t1) (fun x9 s =>
  bindO (some t2) (fun x10 s =>
  bindO (some t0) (fun x11 s =>
  bindO (lenR P 84 x11 s) (fun x12 s =>
  bindO (slcV P 84 x8 (some x9) (some x10) (some x12) s) (fun x13 s =>
  bindO (some t1) (fun x14 s =>
  bindO (some t2) (fun x15 s =>
  bindO (binV P .eql 3 x14 x15) (fun x16 s =>
  condW x16
  (bindO (some t0) (fun x17 s =>
  bindO (some x17) (fun x6x1 s =>
  kEnd Q s0 (retV (consO (some x6x1) (some []))) s) s) s)
  (f38xJ1 C Q s0 t0 t1 t2 s)) s) s) s) s) s) s) s) s) s) s0

theorem f38xeq (C : CallT) (Q : Post) (t0 t1 t2 : Value) (s0 : St) : bodyW P C wips 38 [t0, t1, t2] Q s0 = f38xS C Q t0 t1 t2 s0 := by kernel_rfl

/-! ### (*erewhile/keytree.Tree).Has -/

def f39xS (C : CallT) (Q : Post) (t0 t1 : Value) (s0 : St) : Prop :=
  bindO (some (.bool false)) (fun x4 s =>
  bindO (some t0) (fun x8 s =>
  bindO (some t1) (fun x9 s =>
  callF P C (fv 31) [x8, x9] (fun x10 s =>
  bindO (some x10) (fun x7 s =>
  bindO (extV x7 0) (fun x11 s =>
  bindO (extV x7 1) (fun x12 s =>
  bindO (some x11) (fun x5 s =>
  bindO (some x12) (fun x6 s =>
  bindO (some x6) (fun x13 s =>
  bindO (some x13) (fun x4x1 s =>
  kEnd Q s0 (retV (consO (some x4x1) (some []))) s) s) s) s) s) s) s) s) s) s) s) s0

theorem f39xeq (C : CallT) (Q : Post) (t0 t1 : Value) (s0 : St) : bodyW P C wips 39 [t0, t1] Q s0 = f39xS C Q t0 t1 s0 := by kernel_rfl

/-! ### erewhile/api.Leaf -/

def f40xS (C : CallT) (Q : Post) (t0 : Value) (s0 : St) : Prop :=
  bindO (some (.int .u64 0)) (fun x2 s =>
  bindO (some t0) (fun x3 s =>
  bindO (binV P .mul 37 (.int .u64 2) x3) (fun x4 s =>
  bindO (some x4) (fun x2x1 s =>
  kEnd Q s0 (retV (consO (some x2x1) (some []))) s) s) s) s) s0

theorem f40xeq (C : CallT) (Q : Post) (t0 : Value) (s0 : St) : bodyW P C wips 40 [t0] Q s0 = f40xS C Q t0 s0 := by kernel_rfl

/-! ### erewhile/api.Token -/

def f41xS (C : CallT) (Q : Post) (t0 : Value) (s0 : St) : Prop :=
  bindO (some (.int .u64 0)) (fun x2 s =>
  bindO (some t0) (fun x3 s =>
  bindO (binV P .mul 37 (.int .u64 2) x3) (fun x4 s =>
  bindO (binV P .add 37 x4 (.int .u64 1)) (fun x5 s =>
  bindO (some x5) (fun x2x1 s =>
  kEnd Q s0 (retV (consO (some x2x1) (some []))) s) s) s) s) s) s0

theorem f41xeq (C : CallT) (Q : Post) (t0 : Value) (s0 : St) : bodyW P C wips 41 [t0] Q s0 = f41xS C Q t0 s0 := by kernel_rfl

/-! ### erewhile/keytree.many -/

def f69xS (C : CallT) (Q : Post) (t0 : Value) (s0 : St) : Prop :=
  bindO (some (.int .u64 0)) (fun x2 s =>
  bindO (some t0) (fun x3 s =>
  bindO (binV P .sub 3 (.int .i64 17) x3) (fun x4 s =>
  bindO (convV (P.underlying 3).isSome (tInt P 167) x4) (fun x5 s =>
  bindO (binV P .shl 37 (.int .u64 1) x5) (fun x6 s =>
  bindO (some x6) (fun x2x1 s =>
  kEnd Q s0 (retV (consO (some x2x1) (some []))) s) s) s) s) s) s) s0

theorem f69xeq (C : CallT) (Q : Post) (t0 : Value) (s0 : St) : bodyW P C wips 69 [t0] Q s0 = f69xS C Q t0 s0 := by kernel_rfl

/-! ### slices.BinarySearchFunc[[]erewhile/keytree.Held,erewhile/keytree.Held,uint64] -/

noncomputable def f70xl0 : Code := (cL (cL (cR (cR (cR (cF P 70))))))
noncomputable def f70xb0 : Code := (cL (cL (cL (cR (cR (cR (cF P 70)))))))

def f70xJ1 (C : CallT) (K : CPost) (I : Value → Value → Value → Value → Value → Value → St → Prop) (t0 t1 t2 t8 t9 t10 : Value) (s : St) : Prop :=
  bindO (some t9) (fun x18 s =>
  bindO (some t10) (fun x19 s =>
  bindO (binV P .add 3 x18 x19) (fun x20 s =>
  bindO (convV (P.underlying 3).isSome (tInt P 167) x20) (fun x21 s =>
  bindO (binV P .shr 167 x21 (.int .u64 1)) (fun x22 s =>
  bindO (convV (P.underlying 167).isSome (tInt P 3) x22) (fun x23 s =>
  bindO (some x23) (fun x11 s =>
  bindO (some t2) (fun x24 s =>
  bindO (some t0) (fun x25 s =>
  bindO (some x11) (fun x26 s =>
  bindO (idxAddr (tElem P 84) x25 x26) (fun x27 s =>
  bindO (loadV (tAgg P 83) x27 s) (fun x28 s =>
  bindO (some t1) (fun x29 s =>
  callF P C x24 [x28, x29] (fun x30 s =>
  bindO (binV P .lss 3 x30 (.int .i64 0)) (fun x31 s =>
  condW x31
  (bindO (some x11) (fun x32 s =>
  bindO (binV P .add 3 x32 (.int .i64 1)) (fun x33 s =>
  bindO (some x33) (fun x9x1 s =>
  I t0 t1 t2 t8 x9x1 t10 s) s) s) s)
  (bindO (some x11) (fun x34 s =>
  bindO (some x34) (fun x10x1 s =>
  I t0 t1 t2 t8 t9 x10x1 s) s) s)) s) s) s) s) s) s) s) s) s) s) s) s) s) s) s

def f70xB0 (C : CallT) (K : CPost) (I : Value → Value → Value → Value → Value → Value → St → Prop) (t0 t1 t2 t8 t9 t10 : Value) (s : St) : Prop :=
  bindO (some t9) (fun x15 s =>
  bindO (some t10) (fun x16 s =>
  bindO (binV P .lss 3 x15 x16) (fun x17 s =>
  condW x17
  (f70xJ1 C K I t0 t1 t2 t8 t9 t10 s)
  (K (.exit 0) (ofL (t0 :: t1 :: t2 :: undef :: undef :: undef :: undef :: undef :: t8 :: t9 :: t10 :: undef :: undef :: undef :: undef :: undef :: undef :: undef :: undef :: undef :: undef :: undef :: undef :: undef :: undef :: undef :: undef :: undef :: undef :: undef :: undef :: undef :: undef :: undef :: undef :: undef :: undef :: undef :: undef :: undef :: undef :: undef :: undef :: undef :: undef :: undef :: undef :: undef :: undef :: [])) s)) s) s) s

theorem f70xloop0 {C : CallT} {K : CPost} {t0 t1 t2 t8 t9 t10 : Value} {s : St} (h : ∀ I : Value → Value → Value → Value → Value → Value → St → Prop, (∀ t0 t1 t2 t8 t9 t10 s, f70xB0 C K I t0 t1 t2 t8 t9 t10 s → I t0 t1 t2 t8 t9 t10 s) → I t0 t1 t2 t8 t9 t10 s) :
    evC P C h70 f70xl0 0 K (ofL (t0 :: t1 :: t2 :: undef :: undef :: undef :: undef :: undef :: t8 :: t9 :: t10 :: undef :: undef :: undef :: undef :: undef :: undef :: undef :: undef :: undef :: undef :: undef :: undef :: undef :: undef :: undef :: undef :: undef :: undef :: undef :: undef :: undef :: undef :: undef :: undef :: undef :: undef :: undef :: undef :: undef :: undef :: undef :: undef :: undef :: undef :: undef :: undef :: undef :: undef :: [])) s := by
  have e : evC P C h70 f70xl0 0 K (ofL (t0 :: t1 :: t2 :: undef :: undef :: undef :: undef :: undef :: t8 :: t9 :: t10 :: undef :: undef :: undef :: undef :: undef :: undef :: undef :: undef :: undef :: undef :: undef :: undef :: undef :: undef :: undef :: undef :: undef :: undef :: undef :: undef :: undef :: undef :: undef :: undef :: undef :: undef :: undef :: undef :: undef :: undef :: undef :: undef :: undef :: undef :: undef :: undef :: undef :: undef :: [])) s = LoopC P C h70 f70xb0 0 K (t0 :: t1 :: t2 :: undef :: undef :: undef :: undef :: undef :: t8 :: t9 :: t10 :: undef :: undef :: undef :: undef :: undef :: undef :: undef :: undef :: undef :: undef :: undef :: undef :: undef :: undef :: undef :: undef :: undef :: undef :: undef :: undef :: undef :: undef :: undef :: undef :: undef :: undef :: undef :: undef :: undef :: undef :: undef :: undef :: undef :: undef :: undef :: undef :: undef :: undef :: []) s := by kernel_rfl
  rw [e]
  intro J hJ
  refine h (fun t0 t1 t2 t8 t9 t10 s => J (t0 :: t1 :: t2 :: undef :: undef :: undef :: undef :: undef :: t8 :: t9 :: t10 :: undef :: undef :: undef :: undef :: undef :: undef :: undef :: undef :: undef :: undef :: undef :: undef :: undef :: undef :: undef :: undef :: undef :: undef :: undef :: undef :: undef :: undef :: undef :: undef :: undef :: undef :: undef :: undef :: undef :: undef :: undef :: undef :: undef :: undef :: undef :: undef :: undef :: undef :: []) s) (fun t0 t1 t2 t8 t9 t10 s hb => hJ _ s ?_)
  have e2 : evC P C h70 f70xb0 0 (kLoop h70 0 J K) (ofL (t0 :: t1 :: t2 :: undef :: undef :: undef :: undef :: undef :: t8 :: t9 :: t10 :: undef :: undef :: undef :: undef :: undef :: undef :: undef :: undef :: undef :: undef :: undef :: undef :: undef :: undef :: undef :: undef :: undef :: undef :: undef :: undef :: undef :: undef :: undef :: undef :: undef :: undef :: undef :: undef :: undef :: undef :: undef :: undef :: undef :: undef :: undef :: undef :: undef :: undef :: [])) s = f70xB0 C K (fun t0 t1 t2 t8 t9 t10 s => J (t0 :: t1 :: t2 :: undef :: undef :: undef :: undef :: undef :: t8 :: t9 :: t10 :: undef :: undef :: undef :: undef :: undef :: undef :: undef :: undef :: undef :: undef :: undef :: undef :: undef :: undef :: undef :: undef :: undef :: undef :: undef :: undef :: undef :: undef :: undef :: undef :: undef :: undef :: undef :: undef :: undef :: undef :: undef :: undef :: undef :: undef :: undef :: undef :: undef :: undef :: []) s) t0 t1 t2 t8 t9 t10 s := by kernel_rfl
  rw [e2]
  exact hb

def f70xJ2 (C : CallT) (Q : Post) (s0 : St) (t0 t1 t2 t8 t9 : Value) (s : St) : Prop :=
  bindO (some t9) (fun x35 s =>
  bindO (some t9) (fun x36 s =>
  bindO (some t8) (fun x37 s =>
  bindO (binV P .lss 3 x36 x37) (fun x38 s =>
  bindO (some x38) (fun x39 s =>
  gW (boolIs true x39) (fun k s => bindO (some t2) k s) (fun x40 s =>
  gW (boolIs true x39) (fun k s => bindO (some t0) k s) (fun x41 s =>
  gW (boolIs true x39) (fun k s => bindO (some t9) k s) (fun x42 s =>
  gW (boolIs true x39) (fun k s => bindO (idxAddr (tElem P 84) x41 x42) k s) (fun x43 s =>
  gW (boolIs true x39) (fun k s => bindO (loadV (tAgg P 83) x43 s) k s) (fun x44 s =>
  gW (boolIs true x39) (fun k s => bindO (some t1) k s) (fun x45 s =>
  gW (boolIs true x39) (fun k s => callF P C x40 [x44, x45] k s) (fun x46 s =>
  gW (boolIs true x39) (fun k s => bindO (binV P .eql 3 x46 (.int .i64 0)) k s) (fun x47 s =>
  bindO (pickV x39 x47 (.bool false)) (fun x48 s =>
  bindO (some x35) (fun x6x1 s =>
  bindO (some x48) (fun x7x1 s =>
  kEnd Q s0 (retV (consO (some x6x1) (consO (some x7x1) (some [])))) s) s) s) s) s) s) s) s) s) s) s) s) s) s) s) s) s

def f70xE0x0 (C : CallT) (Q : Post) (s0 : St) (t0 t1 t2 t8 t9 : Value) (s : St) : Prop :=
  f70xJ2 C Q s0 t0 t1 t2 t8 t9 s

noncomputable def f70xK3 (C : CallT) (Q : Post) (s0 : St) : CPost := kSeq (evC P C h70 (cR (cR (cR (cR (cF P 70))))) 0 (kBody P (cN P 70) Q s0)) (kBody P (cN P 70) Q s0)

noncomputable def f70xK4 (C : CallT) (Q : Post) (s0 : St) : CPost := kBlock 0 (f70xK3 C Q s0)

theorem f70xE0x0xeq (C : CallT) (Q : Post) (s0 : St) (t0 t1 t2 t8 t9 t10 : Value) (s : St) : (f70xK4 C Q s0) (.exit 0) (ofL (t0 :: t1 :: t2 :: undef :: undef :: undef :: undef :: undef :: t8 :: t9 :: t10 :: undef :: undef :: undef :: undef :: undef :: undef :: undef :: undef :: undef :: undef :: undef :: undef :: undef :: undef :: undef :: undef :: undef :: undef :: undef :: undef :: undef :: undef :: undef :: undef :: undef :: undef :: undef :: undef :: undef :: undef :: undef :: undef :: undef :: undef :: undef :: undef :: undef :: undef :: [])) s = f70xE0x0 C Q s0 t0 t1 t2 t8 t9 s := by kernel_rfl

def f70xS (C : CallT) (Q : Post) (t0 t1 t2 : Value) (s0 : St) : Prop :=
  bindO (some (.int .i64 0)) (fun x6 s =>
  bindO (some (.bool false)) (fun x7 s =>
  bindO (some t0) (fun x12 s =>
  bindO (lenR P 84 x12 s) (fun x13 s =>
  bindO (some x13) (fun x8 s =>
  bindO (some x8) (fun x14 s =>
  bindO (some (.int .i64 0)) (fun x9 s =>
  bindO (some x14) (fun x10 s =>
  evC P C h70 f70xl0 0 (f70xK4 C Q s0) (ofL (t0 :: t1 :: t2 :: undef :: undef :: undef :: undef :: undef :: x8 :: x9 :: x10 :: undef :: undef :: undef :: undef :: undef :: undef :: undef :: undef :: undef :: undef :: undef :: undef :: undef :: undef :: undef :: undef :: undef :: undef :: undef :: undef :: undef :: undef :: undef :: undef :: undef :: undef :: undef :: undef :: undef :: undef :: undef :: undef :: undef :: undef :: undef :: undef :: undef :: undef :: [])) s) s) s) s) s) s) s) s) s0

theorem f70xeq (C : CallT) (Q : Post) (t0 t1 t2 : Value) (s0 : St) : bodyW P C wips 70 [t0, t1, t2] Q s0 = f70xS C Q t0 t1 t2 s0 := by kernel_rfl

/-! ### (*erewhile/keytree.Tree).find$1 -/

def f71xS (C : CallT) (Q : Post) (t0 t1 : Value) (s0 : St) : Prop :=
  newW (boxN t0) (fun x2 s =>
  bindO (some (.int .i64 0)) (fun x4 s =>
  bindO (ptrAdd (tField P 83 1) x2) (fun x5 s =>
  bindO (loadV (tAgg P 37) x5 s) (fun x6 s =>
  bindO (some t1) (fun x7 s =>
  callF P C (fv 36) [x6, x7] (fun x8 s =>
  bindO (some x8) (fun x4x1 s =>
  kEnd Q s0 (retV (consO (some x4x1) (some []))) s) s) s) s) s) s) s) s0

theorem f71xeq (C : CallT) (Q : Post) (t0 t1 : Value) (s0 : St) : bodyW P C wips 71 [t0, t1] Q s0 = f71xS C Q t0 t1 s0 := by kernel_rfl

/-! ### (*erewhile/keytree.Tree).down$1 -/

def f72xS (C : CallT) (Q : Post) (t0 t1 : Value) (s0 : St) : Prop :=
  newW (boxN t0) (fun x2 s =>
  newW (zeroN (tZero P 83)) (fun x3 s =>
  newW (zeroN (tZero P 83)) (fun x4 s =>
  optW (loadV (tAgg P 35) t1 s) (fun x8 =>
  optW (nilV x8) (fun x9 =>
  optW (ptrAdd (tField P 86 0) x9) (fun x10 =>
  optW (loadV (tAgg P 81) x10 s) (fun x11 =>
  optW (ptrAdd (tField P 83 2) x2) (fun x12 =>
  optW (loadV (tAgg P 30) x12 s) (fun x13 =>
  callI P C x11 "Split" [x13] (fun x14 s =>
  optW (some x14) (fun x7 =>
  optW (extV x7 0) (fun x15 =>
  optW (extV x7 1) (fun x16 =>
  newW (zeroN (tZero P 30)) (fun x5 s =>
  newW (zeroN (tZero P 30)) (fun x6 s =>
  storeW (tSize P 30) x5 x15 (fun _ s =>
  storeW (tSize P 30) x6 x16 (fun _ s =>
  optW (ptrAdd (tField P 83 0) x2) (fun x17 =>
  optW (loadV (tAgg P 3) x17 s) (fun x18 =>
  optW (binV P .add 3 x18 (.int .i64 1)) (fun x19 =>
  optW (ptrAdd (tField P 83 1) x2) (fun x20 =>
  optW (loadV (tAgg P 37) x20 s) (fun x21 =>
  optW (loadV (tAgg P 30) x5 s) (fun x22 =>
  optW (buildV P 83 #[(0, x19), (1, x21), (2, x22)]) (fun x23 =>
  optW (ptrAdd (tField P 83 0) x2) (fun x24 =>
  optW (loadV (tAgg P 3) x24 s) (fun x25 =>
  optW (binV P .add 3 x25 (.int .i64 1)) (fun x26 =>
  optW (ptrAdd (tField P 83 1) x2) (fun x27 =>
  optW (loadV (tAgg P 37) x27 s) (fun x28 =>
  optW (ptrAdd (tField P 83 0) x2) (fun x29 =>
  optW (loadV (tAgg P 3) x29 s) (fun x30 =>
  optW (binV P .add 3 x30 (.int .i64 1)) (fun x31 =>
  optW (loadV (tAgg P 30) x6 s) (fun x34 =>
  callF P C (fv 69) [x31] (fun x32 s =>
  chkW (some true) ((loadV (tAgg P 3) x17 s) = some x18) (chkW (some true) ((loadV (tAgg P 37) x20 s) = some x21) (chkW (some true) ((loadV (tAgg P 30) x5 s) = some x22) (chkW (some true) ((loadV (tAgg P 3) x24 s) = some x25) (chkW (some true) ((loadV (tAgg P 37) x27 s) = some x28) (chkW (some true) ((loadV (tAgg P 30) x6 s) = some x34) (optW (binV P .add 37 x28 x32) (fun x33 =>
  optW (buildV P 83 #[(0, x26), (1, x33), (2, x34)]) (fun x35 =>
  storeW (tSize P 83) x3 x23 (fun _ s =>
  chkW (some true) ((loadV (tAgg P 3) x24 s) = some x25) (chkW (some true) ((loadV (tAgg P 37) x27 s) = some x28) (chkW (some true) ((loadV (tAgg P 30) x6 s) = some x34) (storeW (tSize P 83) x4 x35 (fun _ s =>
  kEnd Q s0 (retV (consO (loadV (tAgg P 83) x3 s) (consO (loadV (tAgg P 83) x4 s) (some [])))) s) s)))) s))))))))) s))))))))))))))))) s) s) s) s)))) s))))))) s) s) s0

theorem f72xeq (C : CallT) (Q : Post) (t0 t1 : Value) (s0 : St) : bodyW P C wips 72 [t0, t1] Q s0 = f72xS C Q t0 t1 s0 := by kernel_rfl

/-! ### cmp.isNaN[uint64] -/

def f75xS (C : CallT) (Q : Post) (t0 : Value) (s0 : St) : Prop :=
  bindO (some (.bool false)) (fun x2 s =>
  bindO (some t0) (fun x3 s =>
  bindO (some t0) (fun x4 s =>
  bindO (binV P .neq 37 x3 x4) (fun x5 s =>
  bindO (some x5) (fun x2x1 s =>
  kEnd Q s0 (retV (consO (some x2x1) (some []))) s) s) s) s) s) s0

theorem f75xeq (C : CallT) (Q : Post) (t0 : Value) (s0 : St) : bodyW P C wips 75 [t0] Q s0 = f75xS C Q t0 s0 := by kernel_rfl

/-! ### (erewhile/erewhilelaw05.Lit).Split -/

def f277xS (C : CallT) (Q : Post) (t0 t1 : Value) (s0 : St) : Prop :=
  newW (boxN t0) (fun x2 s =>
  newW (boxN t1) (fun x3 s =>
  newW (zeroN (tZero P 30)) (fun x4 s =>
  newW (zeroN (tZero P 30)) (fun x5 s =>
  bindO (loadV (tAgg P 30) x3 s) (fun x6 s =>
  callF P C (fv 280) [x6] (fun x7 s =>
  bindO (extV x7 0) (fun x8 s =>
  bindO (extV x7 1) (fun x9 s =>
  storeW (tSize P 30) x4 x8 (fun _ s =>
  storeW (tSize P 30) x5 x9 (fun _ s =>
  kEnd Q s0 (retV (consO (loadV (tAgg P 30) x4 s) (consO (loadV (tAgg P 30) x5 s) (some [])))) s) s) s) s) s) s) s) s) s) s) s0

theorem f277xeq (C : CallT) (Q : Post) (t0 t1 : Value) (s0 : St) : bodyW P C wips 277 [t0, t1] Q s0 = f277xS C Q t0 t1 s0 := by kernel_rfl

/-! ### erewhile/erewhileref05.LitPad -/

noncomputable def f279xl0 : Code := (cL (cR (cL (cR (cR (cR (cF P 279)))))))
noncomputable def f279xb0 : Code := (cL (cL (cR (cL (cR (cR (cR (cF P 279))))))))

def f279xJ1 (C : CallT) (K : CPost) (I : Value → Value → Value → Value → Value → Value → St → Prop) (t1 t2 t4 t5 t6 t7 : Value) (s : St) : Prop :=
  bindO (some t7) (fun x24 s =>
  bindO (binV P .add 3 x24 (.int .i64 1)) (fun x25 s =>
  bindO (some x25) (fun x7x1 s =>
  I t1 t2 t4 t5 t6 x7x1 s) s) s) s

def f279xJ2 (C : CallT) (K : CPost) (I : Value → Value → Value → Value → Value → Value → St → Prop) (t1 t2 t4 t5 t6 t7 : Value) (s : St) : Prop :=
  bindO (some t6) (fun x26 s =>
  bindO (binV P .mul 37 x26 (.int .u64 6364136223846793005)) (fun x27 s =>
  bindO (binV P .add 37 x27 (.int .u64 1442695040888963407)) (fun x28 s =>
  bindO (some t1) (fun x29 s =>
  bindO (binV P .add 37 x28 x29) (fun x30 s =>
  bindO (some t7) (fun x31 s =>
  bindO (idxAddr (tElem P 30) t2 x31) (fun x32 s =>
  bindO (loadV (tAgg P 5) x32 s) (fun x33 s =>
  bindO (convV (P.underlying 5).isSome (tInt P 37) x33) (fun x34 s =>
  bindO (binV P .add 37 x30 x34) (fun x35 s =>
  bindO (some x35) (fun x6x1 s =>
  bindO (some t7) (fun x36 s =>
  bindO (some x6x1) (fun x37 s =>
  bindO (binV P .shr 37 x37 (.int .u64 56)) (fun x38 s =>
  bindO (convV (P.underlying 37).isSome (tInt P 5) x38) (fun x39 s =>
  bindO (idxAddr (tElem P 38) t5 x36) (fun x40 s =>
  storeW (tSize P 5) x40 x39 (fun _ s =>
  f279xJ1 C K I t1 t2 t4 t5 x6x1 t7 s) s) s) s) s) s) s) s) s) s) s) s) s) s) s) s) s) s

def f279xB0 (C : CallT) (K : CPost) (I : Value → Value → Value → Value → Value → Value → St → Prop) (t1 t2 t4 t5 t6 t7 : Value) (s : St) : Prop :=
  bindO (some t7) (fun x22 s =>
  bindO (binV P .lss 3 x22 (.int .i64 32)) (fun x23 s =>
  condW x23
  (f279xJ2 C K I t1 t2 t4 t5 t6 t7 s)
  (K (.exit 0) (ofL (undef :: t1 :: t2 :: undef :: t4 :: t5 :: t6 :: t7 :: undef :: undef :: undef :: undef :: undef :: undef :: undef :: undef :: undef :: undef :: undef :: undef :: undef :: undef :: undef :: undef :: undef :: undef :: undef :: undef :: undef :: undef :: undef :: undef :: undef :: undef :: undef :: undef :: undef :: undef :: undef :: undef :: undef :: undef :: [])) s)) s) s

theorem f279xloop0 {C : CallT} {K : CPost} {t1 t2 t4 t5 t6 t7 : Value} {s : St} (h : ∀ I : Value → Value → Value → Value → Value → Value → St → Prop, (∀ t1 t2 t4 t5 t6 t7 s, f279xB0 C K I t1 t2 t4 t5 t6 t7 s → I t1 t2 t4 t5 t6 t7 s) → I t1 t2 t4 t5 t6 t7 s) :
    evC P C h279 f279xl0 0 K (ofL (undef :: t1 :: t2 :: undef :: t4 :: t5 :: t6 :: t7 :: undef :: undef :: undef :: undef :: undef :: undef :: undef :: undef :: undef :: undef :: undef :: undef :: undef :: undef :: undef :: undef :: undef :: undef :: undef :: undef :: undef :: undef :: undef :: undef :: undef :: undef :: undef :: undef :: undef :: undef :: undef :: undef :: undef :: undef :: [])) s := by
  have e : evC P C h279 f279xl0 0 K (ofL (undef :: t1 :: t2 :: undef :: t4 :: t5 :: t6 :: t7 :: undef :: undef :: undef :: undef :: undef :: undef :: undef :: undef :: undef :: undef :: undef :: undef :: undef :: undef :: undef :: undef :: undef :: undef :: undef :: undef :: undef :: undef :: undef :: undef :: undef :: undef :: undef :: undef :: undef :: undef :: undef :: undef :: undef :: undef :: [])) s = LoopC P C h279 f279xb0 0 K (undef :: t1 :: t2 :: undef :: t4 :: t5 :: t6 :: t7 :: undef :: undef :: undef :: undef :: undef :: undef :: undef :: undef :: undef :: undef :: undef :: undef :: undef :: undef :: undef :: undef :: undef :: undef :: undef :: undef :: undef :: undef :: undef :: undef :: undef :: undef :: undef :: undef :: undef :: undef :: undef :: undef :: undef :: undef :: []) s := by kernel_rfl
  rw [e]
  intro J hJ
  refine h (fun t1 t2 t4 t5 t6 t7 s => J (undef :: t1 :: t2 :: undef :: t4 :: t5 :: t6 :: t7 :: undef :: undef :: undef :: undef :: undef :: undef :: undef :: undef :: undef :: undef :: undef :: undef :: undef :: undef :: undef :: undef :: undef :: undef :: undef :: undef :: undef :: undef :: undef :: undef :: undef :: undef :: undef :: undef :: undef :: undef :: undef :: undef :: undef :: undef :: []) s) (fun t1 t2 t4 t5 t6 t7 s hb => hJ _ s ?_)
  have e2 : evC P C h279 f279xb0 0 (kLoop h279 0 J K) (ofL (undef :: t1 :: t2 :: undef :: t4 :: t5 :: t6 :: t7 :: undef :: undef :: undef :: undef :: undef :: undef :: undef :: undef :: undef :: undef :: undef :: undef :: undef :: undef :: undef :: undef :: undef :: undef :: undef :: undef :: undef :: undef :: undef :: undef :: undef :: undef :: undef :: undef :: undef :: undef :: undef :: undef :: undef :: undef :: [])) s = f279xB0 C K (fun t1 t2 t4 t5 t6 t7 s => J (undef :: t1 :: t2 :: undef :: t4 :: t5 :: t6 :: t7 :: undef :: undef :: undef :: undef :: undef :: undef :: undef :: undef :: undef :: undef :: undef :: undef :: undef :: undef :: undef :: undef :: undef :: undef :: undef :: undef :: undef :: undef :: undef :: undef :: undef :: undef :: undef :: undef :: undef :: undef :: undef :: undef :: undef :: undef :: []) s) t1 t2 t4 t5 t6 t7 s := by kernel_rfl
  rw [e2]
  exact hb

def f279xJ3 (C : CallT) (Q : Post) (s0 : St) (t4 t5 : Value) (s : St) : Prop :=
  bindO (loadV (tAgg P 38) t5 s) (fun x41 s =>
  storeW (tSize P 38) t4 x41 (fun _ s =>
  kEnd Q s0 (retV (consO (loadV (tAgg P 38) t4 s) (some []))) s) s) s

def f279xE0x0 (C : CallT) (Q : Post) (s0 : St) (t4 t5 : Value) (s : St) : Prop :=
  f279xJ3 C Q s0 t4 t5 s

noncomputable def f279xK4 (C : CallT) (Q : Post) (s0 : St) : CPost := kSeq (evC P C h279 (cR (cR (cR (cR (cF P 279))))) 0 (kBody P (cN P 279) Q s0)) (kBody P (cN P 279) Q s0)

noncomputable def f279xK5 (C : CallT) (Q : Post) (s0 : St) : CPost := kBlock 0 (f279xK4 C Q s0)

theorem f279xE0x0xeq (C : CallT) (Q : Post) (s0 : St) (t1 t2 t4 t5 t6 t7 : Value) (s : St) : (f279xK5 C Q s0) (.exit 0) (ofL (undef :: t1 :: t2 :: undef :: t4 :: t5 :: t6 :: t7 :: undef :: undef :: undef :: undef :: undef :: undef :: undef :: undef :: undef :: undef :: undef :: undef :: undef :: undef :: undef :: undef :: undef :: undef :: undef :: undef :: undef :: undef :: undef :: undef :: undef :: undef :: undef :: undef :: undef :: undef :: undef :: undef :: undef :: undef :: [])) s = f279xE0x0 C Q s0 t4 t5 s := by kernel_rfl

def f279xS (C : CallT) (Q : Post) (t0 t1 : Value) (s0 : St) : Prop :=
  newW (boxN t0) (fun x2 s =>
  newW (zeroN (tZero P 38)) (fun x4 s =>
  newW (zeroN (tZero P 38)) (fun x5 s =>
  bindO (idxAddr (tElem P 30) x2 (.int .i64 0)) (fun x8 s =>
  bindO (loadV (tAgg P 5) x8 s) (fun x9 s =>
  bindO (convV (P.underlying 5).isSome (tInt P 37) x9) (fun x10 s =>
  bindO (idxAddr (tElem P 30) x2 (.int .i64 1)) (fun x11 s =>
  bindO (loadV (tAgg P 5) x11 s) (fun x12 s =>
  bindO (convV (P.underlying 5).isSome (tInt P 37) x12) (fun x13 s =>
  bindO (binV P .mul 37 (.int .u64 256) x13) (fun x14 s =>
  bindO (binV P .add 37 x10 x14) (fun x15 s =>
  bindO (idxAddr (tElem P 30) x2 (.int .i64 2)) (fun x16 s =>
  bindO (loadV (tAgg P 5) x16 s) (fun x17 s =>
  bindO (convV (P.underlying 5).isSome (tInt P 37) x17) (fun x18 s =>
  bindO (binV P .mul 37 (.int .u64 65536) x18) (fun x19 s =>
  bindO (binV P .add 37 x15 x19) (fun x20 s =>
  bindO (binV P .add 37 x20 (.int .u64 7)) (fun x21 s =>
  bindO (some x21) (fun x6 s =>
  bindO (some (.int .i64 0)) (fun x7 s =>
  evC P C h279 f279xl0 0 (f279xK5 C Q s0) (ofL (undef :: t1 :: x2 :: undef :: x4 :: x5 :: x6 :: x7 :: undef :: undef :: undef :: undef :: undef :: undef :: undef :: undef :: undef :: undef :: undef :: undef :: undef :: undef :: undef :: undef :: undef :: undef :: undef :: undef :: undef :: undef :: undef :: undef :: undef :: undef :: undef :: undef :: undef :: undef :: undef :: undef :: undef :: undef :: [])) s) s) s) s) s) s) s) s) s) s) s) s) s) s) s) s) s) s) s) s0

theorem f279xeq (C : CallT) (Q : Post) (t0 t1 : Value) (s0 : St) : bodyW P C wips 279 [t0, t1] Q s0 = f279xS C Q t0 t1 s0 := by kernel_rfl

/-! ### erewhile/erewhileref05.LitSplit -/

def f280xS (C : CallT) (Q : Post) (t0 : Value) (s0 : St) : Prop :=
  newW (boxN t0) (fun x1 s =>
  newW (zeroN (tZero P 30)) (fun x2 s =>
  newW (zeroN (tZero P 30)) (fun x3 s =>
  bindO (loadV (tAgg P 30) x1 s) (fun x6 s =>
  callF P C (fv 279) [x6, (.int .u64 1099511627776)] (fun x7 s =>
  newW (zeroN (tZero P 38)) (fun x4 s =>
  storeW (tSize P 38) x4 x7 (fun _ s =>
  bindO (loadV (tAgg P 30) x1 s) (fun x8 s =>
  callF P C (fv 279) [x8, (.int .u64 2199023255552)] (fun x9 s =>
  newW (zeroN (tZero P 38)) (fun x5 s =>
  storeW (tSize P 38) x5 x9 (fun _ s =>
  optW (loadV (tAgg P 38) x4 s) (fun x10 =>
  optW (loadV (tAgg P 38) x5 s) (fun x11 =>
  storeW (tSize P 30) x2 x10 (fun _ s =>
  chkW (some true) ((loadV (tAgg P 38) x5 s) = some x11) (storeW (tSize P 30) x3 x11 (fun _ s =>
  kEnd Q s0 (retV (consO (loadV (tAgg P 30) x2 s) (consO (loadV (tAgg P 30) x3 s) (some [])))) s) s)) s))) s) s) s) s) s) s) s) s) s) s) s0

theorem f280xeq (C : CallT) (Q : Post) (t0 : Value) (s0 : St) : bodyW P C wips 280 [t0] Q s0 = f280xS C Q t0 s0 := by kernel_rfl

end Go.Zz
