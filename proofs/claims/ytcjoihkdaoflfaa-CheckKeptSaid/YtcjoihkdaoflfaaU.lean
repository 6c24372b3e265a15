/- Shallow forms of the functions, each tied to its code by computation. Printed by a program. -/
import Derived.Test.YtcjoihkdaoflfaaT
import Derived.Test.YtcjoihkdaoflfaaProg
import Derived.KernelRfl
set_option linter.all false
set_option linter.unusedVariables false
namespace Go.Zz
open Go

noncomputable abbrev P : Program := Go.Proofs.Try.prog

def h3 : Hint := ⟨68, lkH [(0, [4, 5, 6, 7, 8, 11, 12, 13, 14, 15, 16, 17, 18, 19, 20, 21, 22, 23, 24, 25, 26, 27, 28, 29, 30, 31, 32, 33, 34, 35, 36, 37, 38, 39, 40, 41, 42, 43, 44, 45, 46, 47, 48, 49, 50, 51, 52, 53, 54, 55, 56, 57, 58, 59, 60, 61, 62, 63, 64, 65, 66, 67])] [], lkH [] ⟨[], [], [], []⟩⟩
def h4 : Hint := ⟨112, lkH [(2, [3, 4, 5, 6, 7, 8, 11, 15, 16, 17, 18, 19, 20, 21, 22, 23, 24, 25, 26, 27, 28, 29, 30, 31, 32, 33, 34, 35, 36, 37, 38, 39, 40, 41, 42, 43, 44, 45, 46, 47, 48, 49, 50, 51, 52, 53, 54, 55, 56, 57, 58, 59, 60, 61, 62, 63, 64, 65, 66, 67, 68, 69, 70, 71, 72, 73, 74, 75, 76, 77, 78, 79, 80, 81, 82, 83, 84, 85, 86, 87, 88, 89, 90, 91, 92, 93, 94, 95, 96, 97, 98, 99, 100, 101, 102, 103, 104, 105, 106, 107, 108, 109, 110, 111]), (0, [4, 5, 6, 7, 8, 12, 13, 14, 15, 16, 17, 18, 19, 20, 21, 22, 23, 24, 25, 26, 27, 28, 29, 30, 31, 32, 33, 34, 35, 36, 37, 38, 39, 40, 41, 42, 43, 44, 45, 46, 47, 48, 49, 50, 51, 52, 53, 54, 55, 56, 57, 58, 59, 60, 61, 62, 63, 64, 65, 66, 67, 68, 69, 70, 71, 72, 73, 74, 75, 76, 77, 78, 79, 80, 81, 82, 83, 84, 85, 86, 87, 88, 89, 90, 91, 92, 93, 94, 95, 96, 97, 98, 99, 100, 101, 102, 103, 104, 105, 106, 107, 108, 109, 110, 111])] [], lkH [] ⟨[], [], [], []⟩⟩
def h5 : Hint := ⟨22, lkH [] [], lkH [] ⟨[], [], [], []⟩⟩
def h6 : Hint := ⟨13, lkH [] [], lkH [] ⟨[], [], [], []⟩⟩
def h7 : Hint := ⟨43, lkH [] [], lkH [(7, ⟨[0, 0, 2, 6, 14, 0, 0, 64, 254, 0, 0, 2046, 4095, 8191, 16383], [8, 11, 14], [2, 0, 0, 0, 0, 0, 0, 0, 1, 1, 1, 2, 2, 2, 3], [0, 0, 0, 0, 0, 0, 0, 0, 0, 0, 0, 1, 2, 2, 2]⟩)] ⟨[], [], [], []⟩⟩
def h8 : Hint := ⟨26, lkH [(0, [2, 3, 6, 7, 8, 9, 10, 11, 12, 13, 14, 15, 16, 17, 18, 19, 20, 21, 22, 23, 24, 25])] [], lkH [(6, ⟨[0, 0, 3, 7, 0, 0, 48, 112, 255], [], [0, 0, 0, 0, 0, 0, 0, 0, 0], [0, 0, 0, 0, 0, 0, 0, 0, 0]⟩)] ⟨[], [], [], []⟩⟩
def h9 : Hint := ⟨52, lkH [(0, [1, 2, 4, 5, 6, 7, 8, 13, 14, 15, 16, 17, 18, 19, 20, 21, 22, 23, 24, 25, 26, 27, 28, 29, 30, 31, 32, 33, 34, 35, 36, 37, 38, 39, 40, 41, 42, 43, 44, 45, 46, 47, 48, 49, 50, 51])] [], lkH [] ⟨[], [], [], []⟩⟩
def h10 : Hint := ⟨50, lkH [(0, [4, 5, 6, 7, 8, 11, 12, 13, 14, 15, 16, 17, 18, 19, 20, 21, 22, 23, 24, 25, 26, 27, 28, 29, 30, 31, 32, 33, 34, 35, 36, 37, 38, 39, 40, 41, 42, 43, 44, 45, 46, 47, 48, 49])] [], lkH [] ⟨[], [], [], []⟩⟩
def h11 : Hint := ⟨18, lkH [(0, [2, 3, 6, 7, 8, 9, 10, 11, 12, 13, 14, 15, 16, 17])] [], lkH [] ⟨[], [], [], []⟩⟩
def h12 : Hint := ⟨5, lkH [] [], lkH [] ⟨[], [], [], []⟩⟩
def h13 : Hint := ⟨6, lkH [] [], lkH [] ⟨[], [], [], []⟩⟩
def h14 : Hint := ⟨11, lkH [] [], lkH [] ⟨[], [], [], []⟩⟩
def h15 : Hint := ⟨54, lkH [] [], lkH [(6, ⟨[0, 1, 3, 7, 7, 23, 55, 119, 7, 263, 1015, 2039, 4087, 8191, 7, 16391, 49159, 114695, 7, 262151, 1032199, 2080775, 4177927, 8372231, 16777215, 33554431], [23], [0, 0, 0, 1, 1, 1, 1, 1, 1, 1, 1, 1, 1, 1, 0, 0, 0, 0, 0, 0, 0, 0, 0, 1, 1, 1], [0, 0, 0, 0, 0, 0, 0, 0, 0, 0, 0, 0, 0, 0, 0, 0, 0, 0, 0, 0, 0, 0, 0, 0, 1, 1]⟩)] ⟨[], [], [], []⟩⟩
def h16 : Hint := ⟨34, lkH [(0, [0, 1, 4, 6, 7, 10, 11, 12, 13, 14, 15, 16, 17, 18, 19, 20, 21, 22, 23, 24, 25, 26, 27, 28, 29, 30, 31, 32, 33])] [], lkH [] ⟨[], [], [], []⟩⟩
def h17 : Hint := ⟨7, lkH [] [], lkH [] ⟨[], [], [], []⟩⟩
def h19 : Hint := ⟨10, lkH [] [], lkH [] ⟨[], [], [], []⟩⟩
def h20 : Hint := ⟨20, lkH [] [], lkH [] ⟨[], [], [], []⟩⟩
def h21 : Hint := ⟨95, lkH [] [], lkH [(11, ⟨[0, 0, 0, 6, 15, 0, 0, 96, 255], [8], [0, 0, 0, 0, 0, 0, 0, 0, 1], [0, 0, 0, 0, 0, 0, 0, 0, 0]⟩), (15, ⟨[0, 0, 0, 6, 15, 0, 0, 96, 255], [8], [0, 0, 0, 0, 0, 0, 0, 0, 1], [0, 0, 0, 0, 0, 0, 0, 0, 0]⟩)] ⟨[], [], [], []⟩⟩
def h22 : Hint := ⟨33, lkH [] [], lkH [(5, ⟨[0, 0, 3, 0, 0, 24, 63, 127], [6], [0, 0, 0, 0, 0, 0, 1, 1], [0, 0, 0, 0, 0, 0, 0, 1]⟩)] ⟨[], [], [], []⟩⟩
def h23 : Hint := ⟨17, lkH [(0, [0, 1, 2, 4, 5, 6, 10, 11, 12, 13, 14, 15, 16])] [], lkH [] ⟨[], [], [], []⟩⟩
def h24 : Hint := ⟨14, lkH [] [], lkH [] ⟨[], [], [], []⟩⟩
def h25 : Hint := ⟨18, lkH [(0, [2, 3, 6, 7, 8, 9, 10, 11, 12, 13, 14, 15, 16, 17])] [], lkH [] ⟨[], [], [], []⟩⟩
def h26 : Hint := ⟨7, lkH [] [], lkH [] ⟨[], [], [], []⟩⟩
def h27 : Hint := ⟨49, lkH [(0, [3, 4, 5, 6, 7, 11, 12, 13, 14, 15, 16, 17, 18, 19, 20, 21, 22, 23, 24, 25, 26, 27, 28, 29, 30, 31, 32, 33, 34, 35, 36, 37, 38, 39, 40, 41, 42, 43, 44, 45, 46, 47, 48])] [], lkH [] ⟨[], [], [], []⟩⟩
def h28 : Hint := ⟨9, lkH [] [], lkH [] ⟨[], [], [], []⟩⟩
def h29 : Hint := ⟨36, lkH [] [], lkH [(1, ⟨[0, 1, 3, 7, 0, 16, 63, 127, 255, 255, 0, 0, 3583, 8191], [6, 12, 13], [0, 0, 0, 0, 0, 0, 1, 1, 1, 2, 1, 1, 2, 3], [0, 0, 0, 0, 0, 0, 0, 1, 1, 1, 1, 1, 1, 2]⟩), (2, ⟨[0, 1, 3, 0, 8, 0, 63, 0, 128, 384, 0, 1024, 0, 4096, 12288, 28672, 64512, 0, 262016, 61567, 1048575], [15, 19, 20], [1, 1, 1, 1, 1, 1, 1, 2, 2, 2, 2, 2, 0, 0, 0, 1, 2, 2, 2, 2, 3], [0, 0, 0, 0, 0, 0, 0, 0, 0, 0, 0, 0, 0, 0, 0, 0, 1, 0, 1, 1, 2]⟩)] ⟨[], [], [], []⟩⟩
def h32 : Hint := ⟨6, lkH [] [], lkH [] ⟨[], [], [], []⟩⟩
def h70 : Hint := ⟨10, lkH [] [], lkH [] ⟨[], [], [], []⟩⟩
def h71 : Hint := ⟨12, lkH [] [], lkH [(3, ⟨[0, 0, 1, 7], [2, 3], [0, 1, 1, 2], [0, 0, 0, 1]⟩)] ⟨[], [], [], []⟩⟩
def h72 : Hint := ⟨42, lkH [(0, [0, 3, 8, 9, 10, 11, 12, 13, 14, 15, 16, 17, 18, 19, 20, 21, 22, 23, 24, 25, 26, 27, 28, 29, 30, 31, 32, 33, 34, 35, 36, 37, 38, 39, 40, 41])] [], lkH [] ⟨[], [], [], []⟩⟩
def wips : FuncId → Hint := fun f => lkH [(3, h3), (4, h4), (5, h5), (6, h6), (7, h7), (8, h8), (9, h9), (10, h10), (11, h11), (12, h12), (13, h13), (14, h14), (15, h15), (16, h16), (17, h17), (19, h19), (20, h20), (21, h21), (22, h22), (23, h23), (24, h24), (25, h25), (26, h26), (27, h27), (28, h28), (29, h29), (32, h32), (70, h70), (71, h71), (72, h72)] ⟨0, fun _ => [], fun _ => ⟨[], [], [], []⟩⟩ f

/-! ### erewhile/erewhilelaw57.CheckLeaks -/

noncomputable def f3xl0 : Code := (cL (cR (cL (cR (cR (cR (cR (cF P 3))))))))
noncomputable def f3xb0 : Code := (cL (cL (cR (cL (cR (cR (cR (cR (cF P 3)))))))))

def f3xJ1 (C : CallT) (K : CPost) (I : Value → Value → Value → Value → Value → Value → St → Prop) (t0 t1 t2 t3 t9 t10 : Value) (s : St) : Prop :=
  bindO (some t10) (fun x38 s =>
  bindO (binV P .add 3 x38 (.int .i64 1)) (fun x39 s =>
  bindO (some x39) (fun x10x1 s =>
  I t0 t1 t2 t3 t9 x10x1 s) s) s) s

def f3xJ2 (C : CallT) (K : CPost) (I : Value → Value → Value → Value → Value → Value → St → Prop) (t0 t1 t2 t3 t9 t10 : Value) (s : St) : Prop :=
  bindO (some t9) (fun x40 s =>
  bindO (some t0) (fun x41 s =>
  bindO (some t10) (fun x42 s =>
  bindO (idxAddr (tElem P 22) x41 x42) (fun x43 s =>
  bindO (loadV (tAgg P 28) x43 s) (fun x44 s =>
  callF P C (fv 7) [x40, x44] (fun x45 s =>
  f3xJ1 C K I t0 t1 t2 t3 t9 t10 s) s) s) s) s) s) s

def f3xB0 (C : CallT) (K : CPost) (I : Value → Value → Value → Value → Value → Value → St → Prop) (t0 t1 t2 t3 t9 t10 : Value) (s : St) : Prop :=
  bindO (some t10) (fun x34 s =>
  bindO (some t0) (fun x35 s =>
  bindO (lenR P 22 x35 s) (fun x36 s =>
  bindO (binV P .lss 3 x34 x36) (fun x37 s =>
  condW x37
  (f3xJ2 C K I t0 t1 t2 t3 t9 t10 s)
  (K (.exit 0) (ofL (t0 :: t1 :: t2 :: t3 :: undef :: undef :: undef :: undef :: undef :: t9 :: t10 :: undef :: undef :: undef :: undef :: undef :: undef :: undef :: undef :: undef :: undef :: undef :: undef :: undef :: undef :: undef :: undef :: undef :: undef :: undef :: undef :: undef :: undef :: undef :: undef :: undef :: undef :: undef :: undef :: undef :: undef :: undef :: undef :: undef :: undef :: undef :: undef :: undef :: undef :: undef :: undef :: undef :: undef :: undef :: undef :: undef :: undef :: undef :: undef :: undef :: undef :: undef :: undef :: undef :: undef :: undef :: undef :: undef :: [])) s)) s) s) s) s

theorem f3xloop0 {C : CallT} {K : CPost} {t0 t1 t2 t3 t9 t10 : Value} {s : St} (h : ∀ I : Value → Value → Value → Value → Value → Value → St → Prop, (∀ t0 t1 t2 t3 t9 t10 s, f3xB0 C K I t0 t1 t2 t3 t9 t10 s → I t0 t1 t2 t3 t9 t10 s) → I t0 t1 t2 t3 t9 t10 s) :
    evC P C h3 f3xl0 0 K (ofL (t0 :: t1 :: t2 :: t3 :: undef :: undef :: undef :: undef :: undef :: t9 :: t10 :: undef :: undef :: undef :: undef :: undef :: undef :: undef :: undef :: undef :: undef :: undef :: undef :: undef :: undef :: undef :: undef :: undef :: undef :: undef :: undef :: undef :: undef :: undef :: undef :: undef :: undef :: undef :: undef :: undef :: undef :: undef :: undef :: undef :: undef :: undef :: undef :: undef :: undef :: undef :: undef :: undef :: undef :: undef :: undef :: undef :: undef :: undef :: undef :: undef :: undef :: undef :: undef :: undef :: undef :: undef :: undef :: undef :: [])) s := by
  have e : evC P C h3 f3xl0 0 K (ofL (t0 :: t1 :: t2 :: t3 :: undef :: undef :: undef :: undef :: undef :: t9 :: t10 :: undef :: undef :: undef :: undef :: undef :: undef :: undef :: undef :: undef :: undef :: undef :: undef :: undef :: undef :: undef :: undef :: undef :: undef :: undef :: undef :: undef :: undef :: undef :: undef :: undef :: undef :: undef :: undef :: undef :: undef :: undef :: undef :: undef :: undef :: undef :: undef :: undef :: undef :: undef :: undef :: undef :: undef :: undef :: undef :: undef :: undef :: undef :: undef :: undef :: undef :: undef :: undef :: undef :: undef :: undef :: undef :: undef :: [])) s = LoopC P C h3 f3xb0 0 K (t0 :: t1 :: t2 :: t3 :: undef :: undef :: undef :: undef :: undef :: t9 :: t10 :: undef :: undef :: undef :: undef :: undef :: undef :: undef :: undef :: undef :: undef :: undef :: undef :: undef :: undef :: undef :: undef :: undef :: undef :: undef :: undef :: undef :: undef :: undef :: undef :: undef :: undef :: undef :: undef :: undef :: undef :: undef :: undef :: undef :: undef :: undef :: undef :: undef :: undef :: undef :: undef :: undef :: undef :: undef :: undef :: undef :: undef :: undef :: undef :: undef :: undef :: undef :: undef :: undef :: undef :: undef :: undef :: undef :: []) s := by kernel_rfl
  rw [e]
  intro J hJ
  refine h (fun t0 t1 t2 t3 t9 t10 s => J (t0 :: t1 :: t2 :: t3 :: undef :: undef :: undef :: undef :: undef :: t9 :: t10 :: undef :: undef :: undef :: undef :: undef :: undef :: undef :: undef :: undef :: undef :: undef :: undef :: undef :: undef :: undef :: undef :: undef :: undef :: undef :: undef :: undef :: undef :: undef :: undef :: undef :: undef :: undef :: undef :: undef :: undef :: undef :: undef :: undef :: undef :: undef :: undef :: undef :: undef :: undef :: undef :: undef :: undef :: undef :: undef :: undef :: undef :: undef :: undef :: undef :: undef :: undef :: undef :: undef :: undef :: undef :: undef :: undef :: []) s) (fun t0 t1 t2 t3 t9 t10 s hb => hJ _ s ?_)
  have e2 : evC P C h3 f3xb0 0 (kLoop h3 0 J K) (ofL (t0 :: t1 :: t2 :: t3 :: undef :: undef :: undef :: undef :: undef :: t9 :: t10 :: undef :: undef :: undef :: undef :: undef :: undef :: undef :: undef :: undef :: undef :: undef :: undef :: undef :: undef :: undef :: undef :: undef :: undef :: undef :: undef :: undef :: undef :: undef :: undef :: undef :: undef :: undef :: undef :: undef :: undef :: undef :: undef :: undef :: undef :: undef :: undef :: undef :: undef :: undef :: undef :: undef :: undef :: undef :: undef :: undef :: undef :: undef :: undef :: undef :: undef :: undef :: undef :: undef :: undef :: undef :: undef :: undef :: [])) s = f3xB0 C K (fun t0 t1 t2 t3 t9 t10 s => J (t0 :: t1 :: t2 :: t3 :: undef :: undef :: undef :: undef :: undef :: t9 :: t10 :: undef :: undef :: undef :: undef :: undef :: undef :: undef :: undef :: undef :: undef :: undef :: undef :: undef :: undef :: undef :: undef :: undef :: undef :: undef :: undef :: undef :: undef :: undef :: undef :: undef :: undef :: undef :: undef :: undef :: undef :: undef :: undef :: undef :: undef :: undef :: undef :: undef :: undef :: undef :: undef :: undef :: undef :: undef :: undef :: undef :: undef :: undef :: undef :: undef :: undef :: undef :: undef :: undef :: undef :: undef :: undef :: undef :: []) s) t0 t1 t2 t3 t9 t10 s := by kernel_rfl
  rw [e2]
  exact hb

def f3xJ3 (C : CallT) (Q : Post) (s0 : St) (t0 t1 t2 t3 t9 : Value) (s : St) : Prop :=
  bindO (some t9) (fun x46 s =>
  bindO (some t1) (fun x47 s =>
  bindO (some t2) (fun x48 s =>
  bindO (some t3) (fun x49 s =>
  bindO (convV (P.underlying 5).isSome (tInt P 28) x49) (fun x50 s =>
  callF P C (fv 9) [x46, x47, x48, x50] (fun x51 s =>
  bindO (some t0) (fun x52 s =>
  bindO (some t1) (fun x53 s =>
  bindO (some t2) (fun x54 s =>
  bindO (some t3) (fun x55 s =>
  bindO (convV (P.underlying 5).isSome (tInt P 28) x55) (fun x56 s =>
  callF P C (fv 10) [x52, x53, x54, x56] (fun x57 s =>
  callF P C (fv 8) [x51, x57] (fun x58 s =>
  bindO (some x58) (fun x59 s =>
  gW (boolIs true x59) (fun k s => bindO (some t1) k s) (fun x60 s =>
  gW (boolIs true x59) (fun k s => bindO (some t2) k s) (fun x61 s =>
  gW (boolIs true x59) (fun k s => bindO (some t3) k s) (fun x62 s =>
  gW (boolIs true x59) (fun k s => bindO (convV (P.underlying 5).isSome (tInt P 28) x62) k s) (fun x63 s =>
  gW (boolIs true x59) (fun k s => callF P C (fv 9) [(.pointer none), x60, x61, x63] k s) (fun x64 s =>
  gW (boolIs true x59) (fun k s => bindO (lenR P 22 x64 s) k s) (fun x65 s =>
  gW (boolIs true x59) (fun k s => bindO (binV P .eql 3 x65 (.int .i64 0)) k s) (fun x66 s =>
  bindO (pickV x59 x66 (.bool false)) (fun x67 s =>
  bindO (some x67) (fun x8x3 s =>
  kEnd Q s0 (retV (consO (some x8x3) (some []))) s) s) s) s) s) s) s) s) s) s) s) s) s) s) s) s) s) s) s) s) s) s) s) s

def f3xE0x0 (C : CallT) (Q : Post) (s0 : St) (t0 t1 t2 t3 t9 : Value) (s : St) : Prop :=
  f3xJ3 C Q s0 t0 t1 t2 t3 t9 s

noncomputable def f3xK4 (C : CallT) (Q : Post) (s0 : St) : CPost := kSeq (evC P C h3 (cR (cR (cR (cR (cR (cF P 3)))))) 0 (kBody P (cN P 3) Q s0)) (kBody P (cN P 3) Q s0)

noncomputable def f3xK5 (C : CallT) (Q : Post) (s0 : St) : CPost := kBlock 0 (f3xK4 C Q s0)

theorem f3xE0x0xeq (C : CallT) (Q : Post) (s0 : St) (t0 t1 t2 t3 t9 t10 : Value) (s : St) : (f3xK5 C Q s0) (.exit 0) (ofL (t0 :: t1 :: t2 :: t3 :: undef :: undef :: undef :: undef :: undef :: t9 :: t10 :: undef :: undef :: undef :: undef :: undef :: undef :: undef :: undef :: undef :: undef :: undef :: undef :: undef :: undef :: undef :: undef :: undef :: undef :: undef :: undef :: undef :: undef :: undef :: undef :: undef :: undef :: undef :: undef :: undef :: undef :: undef :: undef :: undef :: undef :: undef :: undef :: undef :: undef :: undef :: undef :: undef :: undef :: undef :: undef :: undef :: undef :: undef :: undef :: undef :: undef :: undef :: undef :: undef :: undef :: undef :: undef :: undef :: [])) s = f3xE0x0 C Q s0 t0 t1 t2 t3 t9 s := by kernel_rfl

def f3xJ6 (C : CallT) (Q : Post) (s0 : St) (t0 t1 t2 t3 : Value) (s : St) : Prop :=
  bindO (buildV P 31 #[]) (fun x30 s =>
  bindO (mkIf 31 (tConcrete P 31) x30) (fun x31 s =>
  bindO (buildV P 27 #[(0, (.int .u8 1))]) (fun x32 s =>
  callF P C (fv 6) [x31, x32] (fun x33 s =>
  bindO (some x33) (fun x9 s =>
  bindO (some (.int .i64 0)) (fun x10 s =>
  evC P C h3 f3xl0 0 (f3xK5 C Q s0) (ofL (t0 :: t1 :: t2 :: t3 :: undef :: undef :: undef :: undef :: undef :: x9 :: x10 :: undef :: undef :: undef :: undef :: undef :: undef :: undef :: undef :: undef :: undef :: undef :: undef :: undef :: undef :: undef :: undef :: undef :: undef :: undef :: undef :: undef :: undef :: undef :: undef :: undef :: undef :: undef :: undef :: undef :: undef :: undef :: undef :: undef :: undef :: undef :: undef :: undef :: undef :: undef :: undef :: undef :: undef :: undef :: undef :: undef :: undef :: undef :: undef :: undef :: undef :: undef :: undef :: undef :: undef :: undef :: undef :: undef :: [])) s) s) s) s) s) s) s

def f3xJ7 (C : CallT) (Q : Post) (s0 : St) (t0 t1 t2 t3 : Value) (s : St) : Prop :=
  bindO (some t0) (fun x13 s =>
  bindO (lenR P 22 x13 s) (fun x14 s =>
  bindO (binV P .gtr 3 x14 (.int .i64 30)) (fun x15 s =>
  bindO (some x15) (fun x16 s =>
  gW (boolIs false x16) (fun k s => bindO (some t1) k s) (fun x17 s =>
  gW (boolIs false x16) (fun k s => bindO (lenR P 22 x17 s) k s) (fun x18 s =>
  gW (boolIs false x16) (fun k s => bindO (binV P .gtr 3 x18 (.int .i64 30)) k s) (fun x19 s =>
  bindO (pickV x16 (.bool true) x19) (fun x20 s =>
  bindO (some x20) (fun x21 s =>
  gW (boolIs false x21) (fun k s => bindO (some t2) k s) (fun x22 s =>
  gW (boolIs false x21) (fun k s => bindO (lenR P 22 x22 s) k s) (fun x23 s =>
  gW (boolIs false x21) (fun k s => bindO (binV P .gtr 3 x23 (.int .i64 30)) k s) (fun x24 s =>
  bindO (pickV x21 (.bool true) x24) (fun x25 s =>
  bindO (some x25) (fun x26 s =>
  gW (boolIs false x26) (fun k s => bindO (some t3) k s) (fun x27 s =>
  gW (boolIs false x26) (fun k s => bindO (binV P .gtr 5 x27 (.int .u8 60)) k s) (fun x28 s =>
  bindO (pickV x26 (.bool true) x28) (fun x29 s =>
  condW x29
  (bindO (some (.bool true)) (fun x8x2 s =>
  kEnd Q s0 (retV (consO (some x8x2) (some []))) s) s)
  (f3xJ6 C Q s0 t0 t1 t2 t3 s)) s) s) s) s) s) s) s) s) s) s) s) s) s) s) s) s) s

def f3xS (C : CallT) (Q : Post) (t0 t1 t2 t3 : Value) (s0 : St) : Prop :=
  bindO (some (.bool false)) (fun x8 s =>
  callF P C (fv 5) [] (fun x11 s =>
  bindO (unV .not x11) (fun x12 s =>
  condW x12
  (bindO (some (.bool false)) (fun x8x1 s =>
  kEnd Q s0 (retV (consO (some x8x1) (some []))) s) s)
  (f3xJ7 C Q s0 t0 t1 t2 t3 s)) s) s) s0

theorem f3xeq (C : CallT) (Q : Post) (t0 t1 t2 t3 : Value) (s0 : St) : bodyW P C wips 3 [t0, t1, t2, t3] Q s0 = f3xS C Q t0 t1 t2 t3 s0 := by kernel_rfl

/-! ### erewhile/erewhilelaw57.CheckKept -/

noncomputable def f4xl0 : Code := (cL (cR (cL (cR (cR (cR (cR (cR (cF P 4)))))))))
noncomputable def f4xb0 : Code := (cL (cL (cR (cL (cR (cR (cR (cR (cR (cF P 4))))))))))

def f4xJ1 (C : CallT) (K : CPost) (I : Value → Value → Value → Value → Value → Value → Value → St → Prop) (t0 t1 t2 t3 t9 t10 t11 : Value) (s : St) : Prop :=
  bindO (some t11) (fun x38 s =>
  bindO (binV P .add 28 x38 (.int .u64 1)) (fun x39 s =>
  bindO (some x39) (fun x11x1 s =>
  I t0 t1 t2 t3 t9 t10 x11x1 s) s) s) s

def f4xJ2 (C : CallT) (K : CPost) (I : Value → Value → Value → Value → Value → Value → Value → St → Prop) (t0 t1 t2 t3 t9 t10 t11 : Value) (s : St) : Prop :=
  bindO (some t9) (fun x49 s =>
  bindO (some t1) (fun x50 s =>
  bindO (some t11) (fun x51 s =>
  callF P C x49 [x50, x51] (fun x52 s =>
  bindO (unV .not x52) (fun x53 s =>
  condW x53
  (bindO (some t10) (fun x54 s =>
  bindO (some t11) (fun x55 s =>
  callF P C (fv 13) [x55] (fun x56 s =>
  callF P C (fv 7) [x54, x56] (fun x57 s =>
  f4xJ1 C K I t0 t1 t2 t3 t9 t10 t11 s) s) s) s) s)
  (f4xJ1 C K I t0 t1 t2 t3 t9 t10 t11 s)) s) s) s) s) s

def f4xJ3 (C : CallT) (K : CPost) (I : Value → Value → Value → Value → Value → Value → Value → St → Prop) (t0 t1 t2 t3 t9 t10 t11 : Value) (s : St) : Prop :=
  bindO (some t9) (fun x40 s =>
  bindO (some t0) (fun x41 s =>
  bindO (some t11) (fun x42 s =>
  callF P C x40 [x41, x42] (fun x43 s =>
  bindO (unV .not x43) (fun x44 s =>
  condW x44
  (bindO (some t10) (fun x45 s =>
  bindO (some t11) (fun x46 s =>
  callF P C (fv 12) [x46] (fun x47 s =>
  callF P C (fv 7) [x45, x47] (fun x48 s =>
  f4xJ2 C K I t0 t1 t2 t3 t9 t10 t11 s) s) s) s) s)
  (f4xJ2 C K I t0 t1 t2 t3 t9 t10 t11 s)) s) s) s) s) s

def f4xB0 (C : CallT) (K : CPost) (I : Value → Value → Value → Value → Value → Value → Value → St → Prop) (t0 t1 t2 t3 t9 t10 t11 : Value) (s : St) : Prop :=
  bindO (some t11) (fun x34 s =>
  bindO (some t2) (fun x35 s =>
  bindO (convV (P.underlying 5).isSome (tInt P 28) x35) (fun x36 s =>
  bindO (binV P .leq 28 x34 x36) (fun x37 s =>
  condW x37
  (f4xJ3 C K I t0 t1 t2 t3 t9 t10 t11 s)
  (K (.exit 0) (ofL (t0 :: t1 :: t2 :: t3 :: undef :: undef :: undef :: undef :: undef :: t9 :: t10 :: t11 :: undef :: undef :: undef :: undef :: undef :: undef :: undef :: undef :: undef :: undef :: undef :: undef :: undef :: undef :: undef :: undef :: undef :: undef :: undef :: undef :: undef :: undef :: undef :: undef :: undef :: undef :: undef :: undef :: undef :: undef :: undef :: undef :: undef :: undef :: undef :: undef :: undef :: undef :: undef :: undef :: undef :: undef :: undef :: undef :: undef :: undef :: undef :: undef :: undef :: undef :: undef :: undef :: undef :: undef :: undef :: undef :: undef :: undef :: undef :: undef :: undef :: undef :: undef :: undef :: undef :: undef :: undef :: undef :: undef :: undef :: undef :: undef :: undef :: undef :: undef :: undef :: undef :: undef :: undef :: undef :: undef :: undef :: undef :: undef :: undef :: undef :: undef :: undef :: undef :: undef :: undef :: undef :: undef :: undef :: undef :: undef :: undef :: undef :: undef :: undef :: [])) s)) s) s) s) s

theorem f4xloop0 {C : CallT} {K : CPost} {t0 t1 t2 t3 t9 t10 t11 : Value} {s : St} (h : ∀ I : Value → Value → Value → Value → Value → Value → Value → St → Prop, (∀ t0 t1 t2 t3 t9 t10 t11 s, f4xB0 C K I t0 t1 t2 t3 t9 t10 t11 s → I t0 t1 t2 t3 t9 t10 t11 s) → I t0 t1 t2 t3 t9 t10 t11 s) :
    evC P C h4 f4xl0 0 K (ofL (t0 :: t1 :: t2 :: t3 :: undef :: undef :: undef :: undef :: undef :: t9 :: t10 :: t11 :: undef :: undef :: undef :: undef :: undef :: undef :: undef :: undef :: undef :: undef :: undef :: undef :: undef :: undef :: undef :: undef :: undef :: undef :: undef :: undef :: undef :: undef :: undef :: undef :: undef :: undef :: undef :: undef :: undef :: undef :: undef :: undef :: undef :: undef :: undef :: undef :: undef :: undef :: undef :: undef :: undef :: undef :: undef :: undef :: undef :: undef :: undef :: undef :: undef :: undef :: undef :: undef :: undef :: undef :: undef :: undef :: undef :: undef :: undef :: undef :: undef :: undef :: undef :: undef :: undef :: undef :: undef :: undef :: undef :: undef :: undef :: undef :: undef :: undef :: undef :: undef :: undef :: undef :: undef :: undef :: undef :: undef :: undef :: undef :: undef :: undef :: undef :: undef :: undef :: undef :: undef :: undef :: undef :: undef :: undef :: undef :: undef :: undef :: undef :: undef :: [])) s := by
  have e : evC P C h4 f4xl0 0 K (ofL (t0 :: t1 :: t2 :: t3 :: undef :: undef :: undef :: undef :: undef :: t9 :: t10 :: t11 :: undef :: undef :: undef :: undef :: undef :: undef :: undef :: undef :: undef :: undef :: undef :: undef :: undef :: undef :: undef :: undef :: undef :: undef :: undef :: undef :: undef :: undef :: undef :: undef :: undef :: undef :: undef :: undef :: undef :: undef :: undef :: undef :: undef :: undef :: undef :: undef :: undef :: undef :: undef :: undef :: undef :: undef :: undef :: undef :: undef :: undef :: undef :: undef :: undef :: undef :: undef :: undef :: undef :: undef :: undef :: undef :: undef :: undef :: undef :: undef :: undef :: undef :: undef :: undef :: undef :: undef :: undef :: undef :: undef :: undef :: undef :: undef :: undef :: undef :: undef :: undef :: undef :: undef :: undef :: undef :: undef :: undef :: undef :: undef :: undef :: undef :: undef :: undef :: undef :: undef :: undef :: undef :: undef :: undef :: undef :: undef :: undef :: undef :: undef :: undef :: [])) s = LoopC P C h4 f4xb0 0 K (t0 :: t1 :: t2 :: t3 :: undef :: undef :: undef :: undef :: undef :: t9 :: t10 :: t11 :: undef :: undef :: undef :: undef :: undef :: undef :: undef :: undef :: undef :: undef :: undef :: undef :: undef :: undef :: undef :: undef :: undef :: undef :: undef :: undef :: undef :: undef :: undef :: undef :: undef :: undef :: undef :: undef :: undef :: undef :: undef :: undef :: undef :: undef :: undef :: undef :: undef :: undef :: undef :: undef :: undef :: undef :: undef :: undef :: undef :: undef :: undef :: undef :: undef :: undef :: undef :: undef :: undef :: undef :: undef :: undef :: undef :: undef :: undef :: undef :: undef :: undef :: undef :: undef :: undef :: undef :: undef :: undef :: undef :: undef :: undef :: undef :: undef :: undef :: undef :: undef :: undef :: undef :: undef :: undef :: undef :: undef :: undef :: undef :: undef :: undef :: undef :: undef :: undef :: undef :: undef :: undef :: undef :: undef :: undef :: undef :: undef :: undef :: undef :: undef :: []) s := by kernel_rfl
  rw [e]
  intro J hJ
  refine h (fun t0 t1 t2 t3 t9 t10 t11 s => J (t0 :: t1 :: t2 :: t3 :: undef :: undef :: undef :: undef :: undef :: t9 :: t10 :: t11 :: undef :: undef :: undef :: undef :: undef :: undef :: undef :: undef :: undef :: undef :: undef :: undef :: undef :: undef :: undef :: undef :: undef :: undef :: undef :: undef :: undef :: undef :: undef :: undef :: undef :: undef :: undef :: undef :: undef :: undef :: undef :: undef :: undef :: undef :: undef :: undef :: undef :: undef :: undef :: undef :: undef :: undef :: undef :: undef :: undef :: undef :: undef :: undef :: undef :: undef :: undef :: undef :: undef :: undef :: undef :: undef :: undef :: undef :: undef :: undef :: undef :: undef :: undef :: undef :: undef :: undef :: undef :: undef :: undef :: undef :: undef :: undef :: undef :: undef :: undef :: undef :: undef :: undef :: undef :: undef :: undef :: undef :: undef :: undef :: undef :: undef :: undef :: undef :: undef :: undef :: undef :: undef :: undef :: undef :: undef :: undef :: undef :: undef :: undef :: undef :: []) s) (fun t0 t1 t2 t3 t9 t10 t11 s hb => hJ _ s ?_)
  have e2 : evC P C h4 f4xb0 0 (kLoop h4 0 J K) (ofL (t0 :: t1 :: t2 :: t3 :: undef :: undef :: undef :: undef :: undef :: t9 :: t10 :: t11 :: undef :: undef :: undef :: undef :: undef :: undef :: undef :: undef :: undef :: undef :: undef :: undef :: undef :: undef :: undef :: undef :: undef :: undef :: undef :: undef :: undef :: undef :: undef :: undef :: undef :: undef :: undef :: undef :: undef :: undef :: undef :: undef :: undef :: undef :: undef :: undef :: undef :: undef :: undef :: undef :: undef :: undef :: undef :: undef :: undef :: undef :: undef :: undef :: undef :: undef :: undef :: undef :: undef :: undef :: undef :: undef :: undef :: undef :: undef :: undef :: undef :: undef :: undef :: undef :: undef :: undef :: undef :: undef :: undef :: undef :: undef :: undef :: undef :: undef :: undef :: undef :: undef :: undef :: undef :: undef :: undef :: undef :: undef :: undef :: undef :: undef :: undef :: undef :: undef :: undef :: undef :: undef :: undef :: undef :: undef :: undef :: undef :: undef :: undef :: undef :: [])) s = f4xB0 C K (fun t0 t1 t2 t3 t9 t10 t11 s => J (t0 :: t1 :: t2 :: t3 :: undef :: undef :: undef :: undef :: undef :: t9 :: t10 :: t11 :: undef :: undef :: undef :: undef :: undef :: undef :: undef :: undef :: undef :: undef :: undef :: undef :: undef :: undef :: undef :: undef :: undef :: undef :: undef :: undef :: undef :: undef :: undef :: undef :: undef :: undef :: undef :: undef :: undef :: undef :: undef :: undef :: undef :: undef :: undef :: undef :: undef :: undef :: undef :: undef :: undef :: undef :: undef :: undef :: undef :: undef :: undef :: undef :: undef :: undef :: undef :: undef :: undef :: undef :: undef :: undef :: undef :: undef :: undef :: undef :: undef :: undef :: undef :: undef :: undef :: undef :: undef :: undef :: undef :: undef :: undef :: undef :: undef :: undef :: undef :: undef :: undef :: undef :: undef :: undef :: undef :: undef :: undef :: undef :: undef :: undef :: undef :: undef :: undef :: undef :: undef :: undef :: undef :: undef :: undef :: undef :: undef :: undef :: undef :: undef :: []) s) t0 t1 t2 t3 t9 t10 t11 s := by kernel_rfl
  rw [e2]
  exact hb

noncomputable def f4xl1 : Code := (cL (cR (cL (cR (cR (cR (cR (cR (cR (cR (cR (cR (cF P 4)))))))))))))
noncomputable def f4xb1 : Code := (cL (cL (cR (cL (cR (cR (cR (cR (cR (cR (cR (cR (cR (cF P 4))))))))))))))

def f4xJ4 (C : CallT) (K : CPost) (I : Value → Value → Value → Value → Value → Value → Value → Value → St → Prop) (t0 t1 t2 t9 t10 t12 t13 t14 : Value) (s : St) : Prop :=
  bindO (some t14) (fun x74 s =>
  bindO (binV P .add 3 x74 (.int .i64 1)) (fun x75 s =>
  bindO (some x75) (fun x14x1 s =>
  I t0 t1 t2 t9 t10 t12 t13 x14x1 s) s) s) s

def f4xJ5 (C : CallT) (K : CPost) (I : Value → Value → Value → Value → Value → Value → Value → Value → St → Prop) (t0 t1 t2 t9 t10 t12 t13 t14 : Value) (s : St) : Prop :=
  bindO (some t0) (fun x76 s =>
  bindO (some t14) (fun x77 s =>
  bindO (idxAddr (tElem P 22) x76 x77) (fun x78 s =>
  bindO (loadV (tAgg P 28) x78 s) (fun x79 s =>
  bindO (some t12) (fun x80 s =>
  bindO (binV P .neq 28 x79 x80) (fun x81 s =>
  condW x81
  (bindO (some t13) (fun x82 s =>
  bindO (some t0) (fun x83 s =>
  bindO (some t14) (fun x84 s =>
  bindO (idxAddr (tElem P 22) x83 x84) (fun x85 s =>
  bindO (loadV (tAgg P 28) x85 s) (fun x86 s =>
  newW (bslN (tSlice P 22) 1 #[(0, x86)]) (fun x87 s =>
  apdW P (tSlice P 22) 22 x82 x87 (fun x88 s =>
  bindO (some x88) (fun x13x1 s =>
  f4xJ4 C K I t0 t1 t2 t9 t10 t12 x13x1 t14 s) s) s) s) s) s) s) s) s)
  (f4xJ4 C K I t0 t1 t2 t9 t10 t12 t13 t14 s)) s) s) s) s) s) s

def f4xB1 (C : CallT) (K : CPost) (I : Value → Value → Value → Value → Value → Value → Value → Value → St → Prop) (t0 t1 t2 t9 t10 t12 t13 t14 : Value) (s : St) : Prop :=
  bindO (some t14) (fun x70 s =>
  bindO (some t0) (fun x71 s =>
  bindO (lenR P 22 x71 s) (fun x72 s =>
  bindO (binV P .lss 3 x70 x72) (fun x73 s =>
  condW x73
  (f4xJ5 C K I t0 t1 t2 t9 t10 t12 t13 t14 s)
  (K (.exit 2) (ofL (t0 :: t1 :: t2 :: undef :: undef :: undef :: undef :: undef :: undef :: t9 :: t10 :: undef :: t12 :: t13 :: t14 :: undef :: undef :: undef :: undef :: undef :: undef :: undef :: undef :: undef :: undef :: undef :: undef :: undef :: undef :: undef :: undef :: undef :: undef :: undef :: undef :: undef :: undef :: undef :: undef :: undef :: undef :: undef :: undef :: undef :: undef :: undef :: undef :: undef :: undef :: undef :: undef :: undef :: undef :: undef :: undef :: undef :: undef :: undef :: undef :: undef :: undef :: undef :: undef :: undef :: undef :: undef :: undef :: undef :: undef :: undef :: undef :: undef :: undef :: undef :: undef :: undef :: undef :: undef :: undef :: undef :: undef :: undef :: undef :: undef :: undef :: undef :: undef :: undef :: undef :: undef :: undef :: undef :: undef :: undef :: undef :: undef :: undef :: undef :: undef :: undef :: undef :: undef :: undef :: undef :: undef :: undef :: undef :: undef :: undef :: undef :: undef :: undef :: [])) s)) s) s) s) s

theorem f4xloop1 {C : CallT} {K : CPost} {t0 t1 t2 t9 t10 t12 t13 t14 : Value} {s : St} (h : ∀ I : Value → Value → Value → Value → Value → Value → Value → Value → St → Prop, (∀ t0 t1 t2 t9 t10 t12 t13 t14 s, f4xB1 C K I t0 t1 t2 t9 t10 t12 t13 t14 s → I t0 t1 t2 t9 t10 t12 t13 t14 s) → I t0 t1 t2 t9 t10 t12 t13 t14 s) :
    evC P C h4 f4xl1 2 K (ofL (t0 :: t1 :: t2 :: undef :: undef :: undef :: undef :: undef :: undef :: t9 :: t10 :: undef :: t12 :: t13 :: t14 :: undef :: undef :: undef :: undef :: undef :: undef :: undef :: undef :: undef :: undef :: undef :: undef :: undef :: undef :: undef :: undef :: undef :: undef :: undef :: undef :: undef :: undef :: undef :: undef :: undef :: undef :: undef :: undef :: undef :: undef :: undef :: undef :: undef :: undef :: undef :: undef :: undef :: undef :: undef :: undef :: undef :: undef :: undef :: undef :: undef :: undef :: undef :: undef :: undef :: undef :: undef :: undef :: undef :: undef :: undef :: undef :: undef :: undef :: undef :: undef :: undef :: undef :: undef :: undef :: undef :: undef :: undef :: undef :: undef :: undef :: undef :: undef :: undef :: undef :: undef :: undef :: undef :: undef :: undef :: undef :: undef :: undef :: undef :: undef :: undef :: undef :: undef :: undef :: undef :: undef :: undef :: undef :: undef :: undef :: undef :: undef :: undef :: [])) s := by
  have e : evC P C h4 f4xl1 2 K (ofL (t0 :: t1 :: t2 :: undef :: undef :: undef :: undef :: undef :: undef :: t9 :: t10 :: undef :: t12 :: t13 :: t14 :: undef :: undef :: undef :: undef :: undef :: undef :: undef :: undef :: undef :: undef :: undef :: undef :: undef :: undef :: undef :: undef :: undef :: undef :: undef :: undef :: undef :: undef :: undef :: undef :: undef :: undef :: undef :: undef :: undef :: undef :: undef :: undef :: undef :: undef :: undef :: undef :: undef :: undef :: undef :: undef :: undef :: undef :: undef :: undef :: undef :: undef :: undef :: undef :: undef :: undef :: undef :: undef :: undef :: undef :: undef :: undef :: undef :: undef :: undef :: undef :: undef :: undef :: undef :: undef :: undef :: undef :: undef :: undef :: undef :: undef :: undef :: undef :: undef :: undef :: undef :: undef :: undef :: undef :: undef :: undef :: undef :: undef :: undef :: undef :: undef :: undef :: undef :: undef :: undef :: undef :: undef :: undef :: undef :: undef :: undef :: undef :: undef :: [])) s = LoopC P C h4 f4xb1 2 K (t0 :: t1 :: t2 :: undef :: undef :: undef :: undef :: undef :: undef :: t9 :: t10 :: undef :: t12 :: t13 :: t14 :: undef :: undef :: undef :: undef :: undef :: undef :: undef :: undef :: undef :: undef :: undef :: undef :: undef :: undef :: undef :: undef :: undef :: undef :: undef :: undef :: undef :: undef :: undef :: undef :: undef :: undef :: undef :: undef :: undef :: undef :: undef :: undef :: undef :: undef :: undef :: undef :: undef :: undef :: undef :: undef :: undef :: undef :: undef :: undef :: undef :: undef :: undef :: undef :: undef :: undef :: undef :: undef :: undef :: undef :: undef :: undef :: undef :: undef :: undef :: undef :: undef :: undef :: undef :: undef :: undef :: undef :: undef :: undef :: undef :: undef :: undef :: undef :: undef :: undef :: undef :: undef :: undef :: undef :: undef :: undef :: undef :: undef :: undef :: undef :: undef :: undef :: undef :: undef :: undef :: undef :: undef :: undef :: undef :: undef :: undef :: undef :: undef :: []) s := by kernel_rfl
  rw [e]
  intro J hJ
  refine h (fun t0 t1 t2 t9 t10 t12 t13 t14 s => J (t0 :: t1 :: t2 :: undef :: undef :: undef :: undef :: undef :: undef :: t9 :: t10 :: undef :: t12 :: t13 :: t14 :: undef :: undef :: undef :: undef :: undef :: undef :: undef :: undef :: undef :: undef :: undef :: undef :: undef :: undef :: undef :: undef :: undef :: undef :: undef :: undef :: undef :: undef :: undef :: undef :: undef :: undef :: undef :: undef :: undef :: undef :: undef :: undef :: undef :: undef :: undef :: undef :: undef :: undef :: undef :: undef :: undef :: undef :: undef :: undef :: undef :: undef :: undef :: undef :: undef :: undef :: undef :: undef :: undef :: undef :: undef :: undef :: undef :: undef :: undef :: undef :: undef :: undef :: undef :: undef :: undef :: undef :: undef :: undef :: undef :: undef :: undef :: undef :: undef :: undef :: undef :: undef :: undef :: undef :: undef :: undef :: undef :: undef :: undef :: undef :: undef :: undef :: undef :: undef :: undef :: undef :: undef :: undef :: undef :: undef :: undef :: undef :: undef :: []) s) (fun t0 t1 t2 t9 t10 t12 t13 t14 s hb => hJ _ s ?_)
  have e2 : evC P C h4 f4xb1 2 (kLoop h4 2 J K) (ofL (t0 :: t1 :: t2 :: undef :: undef :: undef :: undef :: undef :: undef :: t9 :: t10 :: undef :: t12 :: t13 :: t14 :: undef :: undef :: undef :: undef :: undef :: undef :: undef :: undef :: undef :: undef :: undef :: undef :: undef :: undef :: undef :: undef :: undef :: undef :: undef :: undef :: undef :: undef :: undef :: undef :: undef :: undef :: undef :: undef :: undef :: undef :: undef :: undef :: undef :: undef :: undef :: undef :: undef :: undef :: undef :: undef :: undef :: undef :: undef :: undef :: undef :: undef :: undef :: undef :: undef :: undef :: undef :: undef :: undef :: undef :: undef :: undef :: undef :: undef :: undef :: undef :: undef :: undef :: undef :: undef :: undef :: undef :: undef :: undef :: undef :: undef :: undef :: undef :: undef :: undef :: undef :: undef :: undef :: undef :: undef :: undef :: undef :: undef :: undef :: undef :: undef :: undef :: undef :: undef :: undef :: undef :: undef :: undef :: undef :: undef :: undef :: undef :: undef :: [])) s = f4xB1 C K (fun t0 t1 t2 t9 t10 t12 t13 t14 s => J (t0 :: t1 :: t2 :: undef :: undef :: undef :: undef :: undef :: undef :: t9 :: t10 :: undef :: t12 :: t13 :: t14 :: undef :: undef :: undef :: undef :: undef :: undef :: undef :: undef :: undef :: undef :: undef :: undef :: undef :: undef :: undef :: undef :: undef :: undef :: undef :: undef :: undef :: undef :: undef :: undef :: undef :: undef :: undef :: undef :: undef :: undef :: undef :: undef :: undef :: undef :: undef :: undef :: undef :: undef :: undef :: undef :: undef :: undef :: undef :: undef :: undef :: undef :: undef :: undef :: undef :: undef :: undef :: undef :: undef :: undef :: undef :: undef :: undef :: undef :: undef :: undef :: undef :: undef :: undef :: undef :: undef :: undef :: undef :: undef :: undef :: undef :: undef :: undef :: undef :: undef :: undef :: undef :: undef :: undef :: undef :: undef :: undef :: undef :: undef :: undef :: undef :: undef :: undef :: undef :: undef :: undef :: undef :: undef :: undef :: undef :: undef :: undef :: undef :: []) s) t0 t1 t2 t9 t10 t12 t13 t14 s := by kernel_rfl
  rw [e2]
  exact hb

def f4xJ6 (C : CallT) (Q : Post) (s0 : St) (t15 : Value) (s : St) : Prop :=
  bindO (some t15) (fun x109 s =>
  bindO (lenR P 22 x109 s) (fun x110 s =>
  bindO (binV P .eql 3 x110 (.int .i64 0)) (fun x111 s =>
  bindO (some x111) (fun x8x5 s =>
  kEnd Q s0 (retV (consO (some x8x5) (some []))) s) s) s) s) s

def f4xJ7 (C : CallT) (Q : Post) (s0 : St) (t0 t1 t2 t9 t10 t12 t13 : Value) (s : St) : Prop :=
  bindO (some t10) (fun x89 s =>
  bindO (some t13) (fun x90 s =>
  bindO (some t1) (fun x91 s =>
  bindO (some t2) (fun x92 s =>
  bindO (convV (P.underlying 5).isSome (tInt P 28) x92) (fun x93 s =>
  callF P C (fv 9) [x89, x90, x91, x93] (fun x94 s =>
  bindO (some x94) (fun x15 s =>
  bindO (some t9) (fun x95 s =>
  bindO (some t0) (fun x96 s =>
  bindO (some t12) (fun x97 s =>
  callF P C x95 [x96, x97] (fun x98 s =>
  bindO (some x98) (fun x99 s =>
  gW (boolIs true x99) (fun k s => bindO (some t12) k s) (fun x100 s =>
  gW (boolIs true x99) (fun k s => bindO (some t2) k s) (fun x101 s =>
  gW (boolIs true x99) (fun k s => bindO (convV (P.underlying 5).isSome (tInt P 28) x101) k s) (fun x102 s =>
  gW (boolIs true x99) (fun k s => bindO (binV P .leq 28 x100 x102) k s) (fun x103 s =>
  bindO (pickV x99 x103 (.bool false)) (fun x104 s =>
  condW x104
  (bindO (some x15) (fun x105 s =>
  bindO (some t12) (fun x106 s =>
  newW (bslN (tSlice P 22) 1 #[(0, x106)]) (fun x107 s =>
  callF P C (fv 8) [x105, x107] (fun x108 s =>
  bindO (some x108) (fun x8x4 s =>
  kEnd Q s0 (retV (consO (some x8x4) (some []))) s) s) s) s) s) s)
  (f4xJ6 C Q s0 x15 s)) s) s) s) s) s) s) s) s) s) s) s) s) s) s) s) s) s

def f4xE1x2 (C : CallT) (Q : Post) (s0 : St) (t0 t1 t2 t9 t10 t12 t13 : Value) (s : St) : Prop :=
  f4xJ7 C Q s0 t0 t1 t2 t9 t10 t12 t13 s

noncomputable def f4xK8 (C : CallT) (Q : Post) (s0 : St) : CPost := kSeq (evC P C h4 (cR (cR (cR (cR (cR (cR (cR (cR (cR (cR (cF P 4))))))))))) 0 (kBody P (cN P 4) Q s0)) (kBody P (cN P 4) Q s0)

noncomputable def f4xK9 (C : CallT) (Q : Post) (s0 : St) : CPost := kBlock 2 (f4xK8 C Q s0)

theorem f4xE1x2xeq (C : CallT) (Q : Post) (s0 : St) (t0 t1 t2 t9 t10 t12 t13 t14 : Value) (s : St) : (f4xK9 C Q s0) (.exit 2) (ofL (t0 :: t1 :: t2 :: undef :: undef :: undef :: undef :: undef :: undef :: t9 :: t10 :: undef :: t12 :: t13 :: t14 :: undef :: undef :: undef :: undef :: undef :: undef :: undef :: undef :: undef :: undef :: undef :: undef :: undef :: undef :: undef :: undef :: undef :: undef :: undef :: undef :: undef :: undef :: undef :: undef :: undef :: undef :: undef :: undef :: undef :: undef :: undef :: undef :: undef :: undef :: undef :: undef :: undef :: undef :: undef :: undef :: undef :: undef :: undef :: undef :: undef :: undef :: undef :: undef :: undef :: undef :: undef :: undef :: undef :: undef :: undef :: undef :: undef :: undef :: undef :: undef :: undef :: undef :: undef :: undef :: undef :: undef :: undef :: undef :: undef :: undef :: undef :: undef :: undef :: undef :: undef :: undef :: undef :: undef :: undef :: undef :: undef :: undef :: undef :: undef :: undef :: undef :: undef :: undef :: undef :: undef :: undef :: undef :: undef :: undef :: undef :: undef :: undef :: [])) s = f4xE1x2 C Q s0 t0 t1 t2 t9 t10 t12 t13 s := by kernel_rfl

def f4xJ10 (C : CallT) (Q : Post) (s0 : St) (t0 t1 t2 t3 t9 t10 : Value) (s : St) : Prop :=
  bindO (some t3) (fun x66 s =>
  bindO (convV (P.underlying 5).isSome (tInt P 28) x66) (fun x67 s =>
  bindO (binV P .rem 28 x67 (.int .u64 31)) (fun x68 s =>
  bindO (binV P .add 28 (.int .u64 1) x68) (fun x69 s =>
  bindO (some x69) (fun x12 s =>
  bindO (some (.slice none 0 0)) (fun x13 s =>
  bindO (some (.int .i64 0)) (fun x14 s =>
  evC P C h4 f4xl1 2 (f4xK9 C Q s0) (ofL (t0 :: t1 :: t2 :: undef :: undef :: undef :: undef :: undef :: undef :: t9 :: t10 :: undef :: x12 :: x13 :: x14 :: undef :: undef :: undef :: undef :: undef :: undef :: undef :: undef :: undef :: undef :: undef :: undef :: undef :: undef :: undef :: undef :: undef :: undef :: undef :: undef :: undef :: undef :: undef :: undef :: undef :: undef :: undef :: undef :: undef :: undef :: undef :: undef :: undef :: undef :: undef :: undef :: undef :: undef :: undef :: undef :: undef :: undef :: undef :: undef :: undef :: undef :: undef :: undef :: undef :: undef :: undef :: undef :: undef :: undef :: undef :: undef :: undef :: undef :: undef :: undef :: undef :: undef :: undef :: undef :: undef :: undef :: undef :: undef :: undef :: undef :: undef :: undef :: undef :: undef :: undef :: undef :: undef :: undef :: undef :: undef :: undef :: undef :: undef :: undef :: undef :: undef :: undef :: undef :: undef :: undef :: undef :: undef :: undef :: undef :: undef :: undef :: undef :: [])) s) s) s) s) s) s) s) s

def f4xJ11 (C : CallT) (Q : Post) (s0 : St) (t0 t1 t2 t3 t9 t10 : Value) (s : St) : Prop :=
  bindO (some t10) (fun x58 s =>
  bindO (some t0) (fun x59 s =>
  bindO (some t1) (fun x60 s =>
  bindO (some t2) (fun x61 s =>
  bindO (convV (P.underlying 5).isSome (tInt P 28) x61) (fun x62 s =>
  callF P C (fv 9) [x58, x59, x60, x62] (fun x63 s =>
  bindO (lenR P 22 x63 s) (fun x64 s =>
  bindO (binV P .neq 3 x64 (.int .i64 0)) (fun x65 s =>
  condW x65
  (bindO (some (.bool false)) (fun x8x3 s =>
  kEnd Q s0 (retV (consO (some x8x3) (some []))) s) s)
  (f4xJ10 C Q s0 t0 t1 t2 t3 t9 t10 s)) s) s) s) s) s) s) s) s

def f4xE0x0 (C : CallT) (Q : Post) (s0 : St) (t0 t1 t2 t3 t9 t10 : Value) (s : St) : Prop :=
  f4xJ11 C Q s0 t0 t1 t2 t3 t9 t10 s

noncomputable def f4xK12 (C : CallT) (Q : Post) (s0 : St) : CPost := kSeq (evC P C h4 (cR (cR (cR (cR (cR (cR (cF P 4))))))) 0 (kBody P (cN P 4) Q s0)) (kBody P (cN P 4) Q s0)

noncomputable def f4xK13 (C : CallT) (Q : Post) (s0 : St) : CPost := kBlock 0 (f4xK12 C Q s0)

theorem f4xE0x0xeq (C : CallT) (Q : Post) (s0 : St) (t0 t1 t2 t3 t9 t10 t11 : Value) (s : St) : (f4xK13 C Q s0) (.exit 0) (ofL (t0 :: t1 :: t2 :: t3 :: undef :: undef :: undef :: undef :: undef :: t9 :: t10 :: t11 :: undef :: undef :: undef :: undef :: undef :: undef :: undef :: undef :: undef :: undef :: undef :: undef :: undef :: undef :: undef :: undef :: undef :: undef :: undef :: undef :: undef :: undef :: undef :: undef :: undef :: undef :: undef :: undef :: undef :: undef :: undef :: undef :: undef :: undef :: undef :: undef :: undef :: undef :: undef :: undef :: undef :: undef :: undef :: undef :: undef :: undef :: undef :: undef :: undef :: undef :: undef :: undef :: undef :: undef :: undef :: undef :: undef :: undef :: undef :: undef :: undef :: undef :: undef :: undef :: undef :: undef :: undef :: undef :: undef :: undef :: undef :: undef :: undef :: undef :: undef :: undef :: undef :: undef :: undef :: undef :: undef :: undef :: undef :: undef :: undef :: undef :: undef :: undef :: undef :: undef :: undef :: undef :: undef :: undef :: undef :: undef :: undef :: undef :: undef :: undef :: [])) s = f4xE0x0 C Q s0 t0 t1 t2 t3 t9 t10 s := by kernel_rfl

def f4xJ14 (C : CallT) (Q : Post) (s0 : St) (t0 t1 t2 t3 : Value) (s : St) : Prop :=
  bindO (some (fv 11)) (fun x9 s =>
  bindO (buildV P 31 #[]) (fun x30 s =>
  bindO (mkIf 31 (tConcrete P 31) x30) (fun x31 s =>
  bindO (buildV P 27 #[(0, (.int .u8 1))]) (fun x32 s =>
  callF P C (fv 6) [x31, x32] (fun x33 s =>
  bindO (some x33) (fun x10 s =>
  bindO (some (.int .u64 1)) (fun x11 s =>
  evC P C h4 f4xl0 0 (f4xK13 C Q s0) (ofL (t0 :: t1 :: t2 :: t3 :: undef :: undef :: undef :: undef :: undef :: x9 :: x10 :: x11 :: undef :: undef :: undef :: undef :: undef :: undef :: undef :: undef :: undef :: undef :: undef :: undef :: undef :: undef :: undef :: undef :: undef :: undef :: undef :: undef :: undef :: undef :: undef :: undef :: undef :: undef :: undef :: undef :: undef :: undef :: undef :: undef :: undef :: undef :: undef :: undef :: undef :: undef :: undef :: undef :: undef :: undef :: undef :: undef :: undef :: undef :: undef :: undef :: undef :: undef :: undef :: undef :: undef :: undef :: undef :: undef :: undef :: undef :: undef :: undef :: undef :: undef :: undef :: undef :: undef :: undef :: undef :: undef :: undef :: undef :: undef :: undef :: undef :: undef :: undef :: undef :: undef :: undef :: undef :: undef :: undef :: undef :: undef :: undef :: undef :: undef :: undef :: undef :: undef :: undef :: undef :: undef :: undef :: undef :: undef :: undef :: undef :: undef :: undef :: undef :: [])) s) s) s) s) s) s) s) s

def f4xJ15 (C : CallT) (Q : Post) (s0 : St) (t0 t1 t2 t3 : Value) (s : St) : Prop :=
  bindO (some t0) (fun x18 s =>
  bindO (lenR P 22 x18 s) (fun x19 s =>
  bindO (binV P .gtr 3 x19 (.int .i64 20)) (fun x20 s =>
  bindO (some x20) (fun x21 s =>
  gW (boolIs false x21) (fun k s => bindO (some t1) k s) (fun x22 s =>
  gW (boolIs false x21) (fun k s => bindO (lenR P 22 x22 s) k s) (fun x23 s =>
  gW (boolIs false x21) (fun k s => bindO (binV P .gtr 3 x23 (.int .i64 20)) k s) (fun x24 s =>
  bindO (pickV x21 (.bool true) x24) (fun x25 s =>
  bindO (some x25) (fun x26 s =>
  gW (boolIs false x26) (fun k s => bindO (some t2) k s) (fun x27 s =>
  gW (boolIs false x26) (fun k s => bindO (binV P .gtr 5 x27 (.int .u8 30)) k s) (fun x28 s =>
  bindO (pickV x26 (.bool true) x28) (fun x29 s =>
  condW x29
  (bindO (some (.bool true)) (fun x8x2 s =>
  kEnd Q s0 (retV (consO (some x8x2) (some []))) s) s)
  (f4xJ14 C Q s0 t0 t1 t2 t3 s)) s) s) s) s) s) s) s) s) s) s) s) s

def f4xS (C : CallT) (Q : Post) (t0 t1 t2 t3 : Value) (s0 : St) : Prop :=
  bindO (some (.bool false)) (fun x8 s =>
  callF P C (fv 5) [] (fun x16 s =>
  bindO (unV .not x16) (fun x17 s =>
  condW x17
  (bindO (some (.bool false)) (fun x8x1 s =>
  kEnd Q s0 (retV (consO (some x8x1) (some []))) s) s)
  (f4xJ15 C Q s0 t0 t1 t2 t3 s)) s) s) s0

theorem f4xeq (C : CallT) (Q : Post) (t0 t1 t2 t3 : Value) (s0 : St) : bodyW P C wips 4 [t0, t1, t2, t3] Q s0 = f4xS C Q t0 t1 t2 t3 s0 := by kernel_rfl

/-! ### erewhile/erewhilelaw57.awake -/

def f5xS (C : CallT) (Q : Post) (s0 : St) : Prop :=
  bindO (some (.bool false)) (fun x0 s =>
  bindO (buildV P 31 #[]) (fun x2 s =>
  bindO (mkIf 31 (tConcrete P 31) x2) (fun x3 s =>
  bindO (buildV P 27 #[(0, (.int .u8 1))]) (fun x4 s =>
  callF P C (fv 6) [x3, x4] (fun x5 s =>
  bindO (some x5) (fun x1 s =>
  bindO (some x1) (fun x6 s =>
  callF P C (fv 7) [x6, (.int .u64 2)] (fun x7 s =>
  bindO (some x1) (fun x8 s =>
  newW (bslN (tSlice P 22) 2 #[(0, (.int .u64 1)), (1, (.int .u64 2))]) (fun x9 s =>
  callF P C (fv 9) [x8, x9, (.slice none 0 0), (.int .u64 2)] (fun x10 s =>
  newW (bslN (tSlice P 22) 2 #[(0, (.int .u64 1)), (1, (.int .u64 2))]) (fun x11 s =>
  callF P C (fv 8) [x10, x11] (fun x12 s =>
  bindO (some x12) (fun x13 s =>
  gW (boolIs true x13) (fun k s => bindO (buildV P 42 #[(0, (.int .i64 3))]) k s) (fun x14 s =>
  gW (boolIs true x13) (fun k s => callF P C (fv 14) [x14] k s) (fun x15 s =>
  bindO (pickV x13 x15 (.bool false)) (fun x16 s =>
  bindO (some x16) (fun x17 s =>
  gW (boolIs true x17) (fun k s => bindO (buildV P 42 #[(3, (.int .i64 1))]) k s) (fun x18 s =>
  gW (boolIs true x17) (fun k s => callF P C (fv 14) [x18] k s) (fun x19 s =>
  gW (boolIs true x17) (fun k s => bindO (unV .not x19) k s) (fun x20 s =>
  bindO (pickV x17 x20 (.bool false)) (fun x21 s =>
  bindO (some x21) (fun x0x1 s =>
  kEnd Q s0 (retV (consO (some x0x1) (some []))) s) s) s) s) s) s) s) s) s) s) s) s) s) s) s) s) s) s) s) s) s) s) s) s0

theorem f5xeq (C : CallT) (Q : Post) (s0 : St) : bodyW P C wips 5 [] Q s0 = f5xS C Q  s0 := by kernel_rfl

/-! ### erewhile/keytree.New -/

def f6xJ1 (C : CallT) (Q : Post) (s0 : St) (t0 t3 : Value) (s : St) : Prop :=
  bindO (some t0) (fun x7 s =>
  bindO (loadV (tAgg P 27) t3 s) (fun x8 s =>
  bindO (buildV P 46 #[(2, x8)]) (fun x9 s =>
  newW (bslN (tSlice P 47) 1 #[(0, x9)]) (fun x10 s =>
  bindO (buildV P 49 #[(0, x7), (1, x10)]) (fun x11 s =>
  newW (boxN x11) (fun x12 s =>
  bindO (some x12) (fun x4x2 s =>
  kEnd Q s0 (retV (consO (some x4x2) (some []))) s) s) s) s) s) s) s) s

def f6xS (C : CallT) (Q : Post) (t0 t1 : Value) (s0 : St) : Prop :=
  newW (boxN t1) (fun x3 s =>
  bindO (some (.pointer none)) (fun x4 s =>
  bindO (some t0) (fun x5 s =>
  bindO (binV P .eql 44 x5 .nilIface) (fun x6 s =>
  condW x6
  (bindO (some (.pointer none)) (fun x4x1 s =>
  kEnd Q s0 (retV (consO (some x4x1) (some []))) s) s)
  (f6xJ1 C Q s0 t0 x3 s)) s) s) s) s0

theorem f6xeq (C : CallT) (Q : Post) (t0 t1 : Value) (s0 : St) : bodyW P C wips 6 [t0, t1] Q s0 = f6xS C Q t0 t1 s0 := by kernel_rfl

/-! ### (*erewhile/keytree.Tree).Puncture -/

def f7xJ1 (C : CallT) (Q : Post) (s0 : St) (t0 t1 t5 : Value) (s : St) : Prop :=
  newW (zeroN (tZero P 47)) (fun x7 s =>
  bindO (some t0) (fun x16 s =>
  bindO (some t0) (fun x17 s =>
  bindO (nilV x17) (fun x18 s =>
  bindO (ptrAdd (tField P 49 1) x18) (fun x19 s =>
  bindO (loadV (tAgg P 47) x19 s) (fun x20 s =>
  bindO (some t5) (fun x21 s =>
  bindO (idxAddr (tElem P 47) x20 x21) (fun x22 s =>
  bindO (loadV (tAgg P 46) x22 s) (fun x23 s =>
  bindO (some t1) (fun x24 s =>
  bindO (mkFn 17 0 #[x7]) (fun x25 s =>
  callF P C (fv 16) [x16, x23, x24, x25] (fun x26 s =>
  bindO (loadV (tAgg P 47) x7 s) (fun x27 s =>
  callF P C (fv 18) [x27, (fv 19)] (fun x28 s =>
  optW (some t0) (fun x29 =>
  optW (some t0) (fun x30 =>
  optW (nilV x30) (fun x31 =>
  optW (ptrAdd (tField P 49 1) x31) (fun x32 =>
  optW (loadV (tAgg P 47) x32 s) (fun x33 =>
  optW (some t5) (fun x34 =>
  optW (some t5) (fun x35 =>
  optW (binV P .add 3 x35 (.int .i64 1)) (fun x36 =>
  optW (some t5) (fun x38 =>
  optW (loadV (tAgg P 47) x7 s) (fun x39 =>
  callF P C (fv 22) [x33, x34, x36] (fun x37 s =>
  chkW (some true) ((loadV (tAgg P 47) x7 s) = some x39) (callF P C (fv 21) [x37, x38, x39] (fun x40 s =>
  optW (nilV x29) (fun x41 =>
  optW (ptrAdd (tField P 49 1) x41) (fun x42 =>
  storeW (tSize P 47) x42 x40 (fun _ s =>
  bindO (some (.bool true)) (fun x4x2 s =>
  kEnd Q s0 (retV (consO (some x4x2) (some []))) s) s) s))) s)) s))))))))))) s) s) s) s) s) s) s) s) s) s) s) s) s) s

def f7xS (C : CallT) (Q : Post) (t0 t1 : Value) (s0 : St) : Prop :=
  bindO (some (.bool false)) (fun x4 s =>
  bindO (some t0) (fun x9 s =>
  bindO (some t1) (fun x10 s =>
  callF P C (fv 15) [x9, x10] (fun x11 s =>
  bindO (some x11) (fun x8 s =>
  bindO (extV x8 0) (fun x12 s =>
  bindO (extV x8 1) (fun x13 s =>
  bindO (some x12) (fun x5 s =>
  bindO (some x13) (fun x6 s =>
  bindO (some x6) (fun x14 s =>
  bindO (unV .not x14) (fun x15 s =>
  condW x15
  (bindO (some (.bool false)) (fun x4x1 s =>
  kEnd Q s0 (retV (consO (some x4x1) (some []))) s) s)
  (f7xJ1 C Q s0 t0 t1 x5 s)) s) s) s) s) s) s) s) s) s) s) s0

theorem f7xeq (C : CallT) (Q : Post) (t0 t1 : Value) (s0 : St) : bodyW P C wips 7 [t0, t1] Q s0 = f7xS C Q t0 t1 s0 := by kernel_rfl

/-! ### erewhile/erewhileref29.Nums -/

noncomputable def f8xl0 : Code := (cL (cR (cL (cR (cR (cF P 8))))))
noncomputable def f8xb0 : Code := (cL (cL (cR (cL (cR (cR (cF P 8)))))))

def f8xJ1 (C : CallT) (K : CPost) (I : Value → Value → Value → Value → St → Prop) (t0 t1 t4 t5 : Value) (s : St) : Prop :=
  bindO (some t5) (fun x15 s =>
  bindO (binV P .add 3 x15 (.int .i64 1)) (fun x16 s =>
  bindO (some x16) (fun x5x1 s =>
  I t0 t1 t4 x5x1 s) s) s) s

def f8xJ2 (C : CallT) (K : CPost) (I : Value → Value → Value → Value → St → Prop) (t0 t1 t4 t5 : Value) (s : St) : Prop :=
  optW (some t0) (fun x17 =>
  optW (some t5) (fun x18 =>
  optW (idxAddr (tElem P 22) x17 x18) (fun x19 =>
  optW (loadV (tAgg P 28) x19 s) (fun x20 =>
  optW (some t1) (fun x21 =>
  optW (some t5) (fun x22 =>
  optW (idxAddr (tElem P 22) x21 x22) (fun x23 =>
  optW (loadV (tAgg P 28) x23 s) (fun x24 =>
  optW (binV P .neq 28 x20 x24) (fun x25 =>
  condW x25
  (bindO (some (.bool false)) (fun x4x2 s =>
  K .ret (ofL (t0 :: t1 :: undef :: undef :: x4x2 :: t5 :: undef :: undef :: undef :: undef :: undef :: undef :: undef :: undef :: undef :: undef :: undef :: undef :: undef :: undef :: undef :: undef :: undef :: undef :: undef :: undef :: [])) s) s)
  (f8xJ1 C K I t0 t1 t4 t5 s))))))))))

def f8xB0 (C : CallT) (K : CPost) (I : Value → Value → Value → Value → St → Prop) (t0 t1 t4 t5 : Value) (s : St) : Prop :=
  bindO (some t5) (fun x11 s =>
  bindO (some t0) (fun x12 s =>
  bindO (lenR P 22 x12 s) (fun x13 s =>
  bindO (binV P .lss 3 x11 x13) (fun x14 s =>
  condW x14
  (f8xJ2 C K I t0 t1 t4 t5 s)
  (K (.exit 0) (ofL (t0 :: t1 :: undef :: undef :: t4 :: t5 :: undef :: undef :: undef :: undef :: undef :: undef :: undef :: undef :: undef :: undef :: undef :: undef :: undef :: undef :: undef :: undef :: undef :: undef :: undef :: undef :: [])) s)) s) s) s) s

theorem f8xloop0 {C : CallT} {K : CPost} {t0 t1 t4 t5 : Value} {s : St} (h : ∀ I : Value → Value → Value → Value → St → Prop, (∀ t0 t1 t4 t5 s, f8xB0 C K I t0 t1 t4 t5 s → I t0 t1 t4 t5 s) → I t0 t1 t4 t5 s) :
    evC P C h8 f8xl0 0 K (ofL (t0 :: t1 :: undef :: undef :: t4 :: t5 :: undef :: undef :: undef :: undef :: undef :: undef :: undef :: undef :: undef :: undef :: undef :: undef :: undef :: undef :: undef :: undef :: undef :: undef :: undef :: undef :: [])) s := by
  have e : evC P C h8 f8xl0 0 K (ofL (t0 :: t1 :: undef :: undef :: t4 :: t5 :: undef :: undef :: undef :: undef :: undef :: undef :: undef :: undef :: undef :: undef :: undef :: undef :: undef :: undef :: undef :: undef :: undef :: undef :: undef :: undef :: [])) s = LoopC P C h8 f8xb0 0 K (t0 :: t1 :: undef :: undef :: t4 :: t5 :: undef :: undef :: undef :: undef :: undef :: undef :: undef :: undef :: undef :: undef :: undef :: undef :: undef :: undef :: undef :: undef :: undef :: undef :: undef :: undef :: []) s := by kernel_rfl
  rw [e]
  intro J hJ
  refine h (fun t0 t1 t4 t5 s => J (t0 :: t1 :: undef :: undef :: t4 :: t5 :: undef :: undef :: undef :: undef :: undef :: undef :: undef :: undef :: undef :: undef :: undef :: undef :: undef :: undef :: undef :: undef :: undef :: undef :: undef :: undef :: []) s) (fun t0 t1 t4 t5 s hb => hJ _ s ?_)
  have e2 : evC P C h8 f8xb0 0 (kLoop h8 0 J K) (ofL (t0 :: t1 :: undef :: undef :: t4 :: t5 :: undef :: undef :: undef :: undef :: undef :: undef :: undef :: undef :: undef :: undef :: undef :: undef :: undef :: undef :: undef :: undef :: undef :: undef :: undef :: undef :: [])) s = f8xB0 C K (fun t0 t1 t4 t5 s => J (t0 :: t1 :: undef :: undef :: t4 :: t5 :: undef :: undef :: undef :: undef :: undef :: undef :: undef :: undef :: undef :: undef :: undef :: undef :: undef :: undef :: undef :: undef :: undef :: undef :: undef :: undef :: []) s) t0 t1 t4 t5 s := by kernel_rfl
  rw [e2]
  exact hb

def f8xJ3 (C : CallT) (Q : Post) (s0 : St) (s : St) : Prop :=
  bindO (some (.bool true)) (fun x4x3 s =>
  kEnd Q s0 (retV (consO (some x4x3) (some []))) s) s

def f8xE0x0 (C : CallT) (Q : Post) (s0 : St) (s : St) : Prop :=
  f8xJ3 C Q s0  s

noncomputable def f8xK4 (C : CallT) (Q : Post) (s0 : St) : CPost := kSeq (evC P C h8 (cR (cR (cR (cF P 8)))) 0 (kBody P (cN P 8) Q s0)) (kBody P (cN P 8) Q s0)

noncomputable def f8xK5 (C : CallT) (Q : Post) (s0 : St) : CPost := kBlock 0 (f8xK4 C Q s0)

theorem f8xE0x0xeq (C : CallT) (Q : Post) (s0 : St) (t0 t1 t4 t5 : Value) (s : St) : (f8xK5 C Q s0) (.exit 0) (ofL (t0 :: t1 :: undef :: undef :: t4 :: t5 :: undef :: undef :: undef :: undef :: undef :: undef :: undef :: undef :: undef :: undef :: undef :: undef :: undef :: undef :: undef :: undef :: undef :: undef :: undef :: undef :: [])) s = f8xE0x0 C Q s0  s := by kernel_rfl

def f8xE0xret (C : CallT) (Q : Post) (s0 : St) (t4 : Value) (s : St) : Prop :=
  kEnd Q s0 (retV (consO (some t4) (some []))) s

theorem f8xE0xret_eq (C : CallT) (Q : Post) (s0 : St) (t0 t1 t4 t5 : Value) (s : St) : (f8xK5 C Q s0) .ret (ofL (t0 :: t1 :: undef :: undef :: t4 :: t5 :: undef :: undef :: undef :: undef :: undef :: undef :: undef :: undef :: undef :: undef :: undef :: undef :: undef :: undef :: undef :: undef :: undef :: undef :: undef :: undef :: [])) s = f8xE0xret C Q s0 t4 s := by kernel_rfl

def f8xJ6 (C : CallT) (Q : Post) (s0 : St) (t0 t1 t4 : Value) (s : St) : Prop :=
  bindO (some (.int .i64 0)) (fun x5 s =>
  evC P C h8 f8xl0 0 (f8xK5 C Q s0) (ofL (t0 :: t1 :: undef :: undef :: t4 :: x5 :: undef :: undef :: undef :: undef :: undef :: undef :: undef :: undef :: undef :: undef :: undef :: undef :: undef :: undef :: undef :: undef :: undef :: undef :: undef :: undef :: [])) s) s

def f8xS (C : CallT) (Q : Post) (t0 t1 : Value) (s0 : St) : Prop :=
  bindO (some (.bool false)) (fun x4 s =>
  bindO (some t0) (fun x6 s =>
  bindO (lenR P 22 x6 s) (fun x7 s =>
  bindO (some t1) (fun x8 s =>
  bindO (lenR P 22 x8 s) (fun x9 s =>
  bindO (binV P .neq 3 x7 x9) (fun x10 s =>
  condW x10
  (bindO (some (.bool false)) (fun x4x1 s =>
  kEnd Q s0 (retV (consO (some x4x1) (some []))) s) s)
  (f8xJ6 C Q s0 t0 t1 x4 s)) s) s) s) s) s) s0

theorem f8xeq (C : CallT) (Q : Post) (t0 t1 : Value) (s0 : St) : bodyW P C wips 8 [t0, t1] Q s0 = f8xS C Q t0 t1 s0 := by kernel_rfl

/-! ### erewhile/check.Leaks -/

noncomputable def f9xl0 : Code := (cL (cR (cL (cR (cR (cR (cR (cF P 9))))))))
noncomputable def f9xb0 : Code := (cL (cL (cR (cL (cR (cR (cR (cR (cF P 9)))))))))

def f9xJ1 (C : CallT) (K : CPost) (I : Value → Value → Value → Value → Value → Value → St → Prop) (t0 t3 t9 t10 t11 t12 : Value) (s : St) : Prop :=
  bindO (some t12) (fun x23 s =>
  bindO (binV P .add 28 x23 (.int .u64 1)) (fun x24 s =>
  bindO (some x24) (fun x12x1 s =>
  I t0 t3 t9 t10 t11 x12x1 s) s) s) s

def f9xJ2 (C : CallT) (K : CPost) (I : Value → Value → Value → Value → Value → Value → St → Prop) (t0 t3 t9 t10 t11 t12 : Value) (s : St) : Prop :=
  bindO (some t0) (fun x25 s =>
  bindO (some t12) (fun x26 s =>
  callF P C (fv 12) [x26] (fun x27 s =>
  callF P C (fv 24) [x25, x27] (fun x28 s =>
  bindO (some x28) (fun x29 s =>
  gW (boolIs true x29) (fun k s => bindO (some t10) k s) (fun x30 s =>
  gW (boolIs true x29) (fun k s => bindO (some t12) k s) (fun x31 s =>
  gW (boolIs true x29) (fun k s => bindO (lookV (tMap P 59) x30 x31 false s) k s) (fun x32 s =>
  gW (boolIs true x29) (fun k s => bindO (unV .not x32) k s) (fun x33 s =>
  bindO (pickV x29 x33 (.bool false)) (fun x34 s =>
  bindO (some x34) (fun x35 s =>
  gW (boolIs false x35) (fun k s => bindO (some t0) k s) (fun x36 s =>
  gW (boolIs false x35) (fun k s => bindO (some t12) k s) (fun x37 s =>
  gW (boolIs false x35) (fun k s => callF P C (fv 13) [x37] k s) (fun x38 s =>
  gW (boolIs false x35) (fun k s => callF P C (fv 24) [x36, x38] k s) (fun x39 s =>
  gW (boolIs false x35) (fun k s => bindO (some x39) k s) (fun x40 s =>
  gW (boolIs true x40) (fun k s => bindO (some t11) k s) (fun x41 s =>
  gW (boolIs true x40) (fun k s => bindO (some t12) k s) (fun x42 s =>
  gW (boolIs true x40) (fun k s => bindO (lookV (tMap P 59) x41 x42 false s) k s) (fun x43 s =>
  gW (boolIs true x40) (fun k s => bindO (unV .not x43) k s) (fun x44 s =>
  gW (boolIs false x35) (fun k s => bindO (pickV x40 x44 (.bool false)) k s) (fun x45 s =>
  bindO (pickV x35 (.bool true) x45) (fun x46 s =>
  condW x46
  (bindO (some t9) (fun x47 s =>
  bindO (some t12) (fun x48 s =>
  newW (bslN (tSlice P 22) 1 #[(0, x48)]) (fun x49 s =>
  apdW P (tSlice P 22) 22 x47 x49 (fun x50 s =>
  bindO (some x50) (fun x9x1 s =>
  f9xJ1 C K I t0 t3 x9x1 t10 t11 t12 s) s) s) s) s) s)
  (f9xJ1 C K I t0 t3 t9 t10 t11 t12 s)) s) s) s) s) s) s) s) s) s) s) s) s) s) s) s) s) s) s) s) s) s) s

def f9xB0 (C : CallT) (K : CPost) (I : Value → Value → Value → Value → Value → Value → St → Prop) (t0 t3 t9 t10 t11 t12 : Value) (s : St) : Prop :=
  bindO (some t12) (fun x19 s =>
  bindO (some t3) (fun x20 s =>
  bindO (foldV min2 [x20, (.int .u64 65535)]) (fun x21 s =>
  bindO (binV P .leq 28 x19 x21) (fun x22 s =>
  condW x22
  (f9xJ2 C K I t0 t3 t9 t10 t11 t12 s)
  (K (.exit 0) (ofL (t0 :: undef :: undef :: t3 :: undef :: undef :: undef :: undef :: undef :: t9 :: t10 :: t11 :: t12 :: undef :: undef :: undef :: undef :: undef :: undef :: undef :: undef :: undef :: undef :: undef :: undef :: undef :: undef :: undef :: undef :: undef :: undef :: undef :: undef :: undef :: undef :: undef :: undef :: undef :: undef :: undef :: undef :: undef :: undef :: undef :: undef :: undef :: undef :: undef :: undef :: undef :: undef :: undef :: [])) s)) s) s) s) s

theorem f9xloop0 {C : CallT} {K : CPost} {t0 t3 t9 t10 t11 t12 : Value} {s : St} (h : ∀ I : Value → Value → Value → Value → Value → Value → St → Prop, (∀ t0 t3 t9 t10 t11 t12 s, f9xB0 C K I t0 t3 t9 t10 t11 t12 s → I t0 t3 t9 t10 t11 t12 s) → I t0 t3 t9 t10 t11 t12 s) :
    evC P C h9 f9xl0 0 K (ofL (t0 :: undef :: undef :: t3 :: undef :: undef :: undef :: undef :: undef :: t9 :: t10 :: t11 :: t12 :: undef :: undef :: undef :: undef :: undef :: undef :: undef :: undef :: undef :: undef :: undef :: undef :: undef :: undef :: undef :: undef :: undef :: undef :: undef :: undef :: undef :: undef :: undef :: undef :: undef :: undef :: undef :: undef :: undef :: undef :: undef :: undef :: undef :: undef :: undef :: undef :: undef :: undef :: undef :: [])) s := by
  have e : evC P C h9 f9xl0 0 K (ofL (t0 :: undef :: undef :: t3 :: undef :: undef :: undef :: undef :: undef :: t9 :: t10 :: t11 :: t12 :: undef :: undef :: undef :: undef :: undef :: undef :: undef :: undef :: undef :: undef :: undef :: undef :: undef :: undef :: undef :: undef :: undef :: undef :: undef :: undef :: undef :: undef :: undef :: undef :: undef :: undef :: undef :: undef :: undef :: undef :: undef :: undef :: undef :: undef :: undef :: undef :: undef :: undef :: undef :: [])) s = LoopC P C h9 f9xb0 0 K (t0 :: undef :: undef :: t3 :: undef :: undef :: undef :: undef :: undef :: t9 :: t10 :: t11 :: t12 :: undef :: undef :: undef :: undef :: undef :: undef :: undef :: undef :: undef :: undef :: undef :: undef :: undef :: undef :: undef :: undef :: undef :: undef :: undef :: undef :: undef :: undef :: undef :: undef :: undef :: undef :: undef :: undef :: undef :: undef :: undef :: undef :: undef :: undef :: undef :: undef :: undef :: undef :: undef :: []) s := by kernel_rfl
  rw [e]
  intro J hJ
  refine h (fun t0 t3 t9 t10 t11 t12 s => J (t0 :: undef :: undef :: t3 :: undef :: undef :: undef :: undef :: undef :: t9 :: t10 :: t11 :: t12 :: undef :: undef :: undef :: undef :: undef :: undef :: undef :: undef :: undef :: undef :: undef :: undef :: undef :: undef :: undef :: undef :: undef :: undef :: undef :: undef :: undef :: undef :: undef :: undef :: undef :: undef :: undef :: undef :: undef :: undef :: undef :: undef :: undef :: undef :: undef :: undef :: undef :: undef :: undef :: []) s) (fun t0 t3 t9 t10 t11 t12 s hb => hJ _ s ?_)
  have e2 : evC P C h9 f9xb0 0 (kLoop h9 0 J K) (ofL (t0 :: undef :: undef :: t3 :: undef :: undef :: undef :: undef :: undef :: t9 :: t10 :: t11 :: t12 :: undef :: undef :: undef :: undef :: undef :: undef :: undef :: undef :: undef :: undef :: undef :: undef :: undef :: undef :: undef :: undef :: undef :: undef :: undef :: undef :: undef :: undef :: undef :: undef :: undef :: undef :: undef :: undef :: undef :: undef :: undef :: undef :: undef :: undef :: undef :: undef :: undef :: undef :: undef :: [])) s = f9xB0 C K (fun t0 t3 t9 t10 t11 t12 s => J (t0 :: undef :: undef :: t3 :: undef :: undef :: undef :: undef :: undef :: t9 :: t10 :: t11 :: t12 :: undef :: undef :: undef :: undef :: undef :: undef :: undef :: undef :: undef :: undef :: undef :: undef :: undef :: undef :: undef :: undef :: undef :: undef :: undef :: undef :: undef :: undef :: undef :: undef :: undef :: undef :: undef :: undef :: undef :: undef :: undef :: undef :: undef :: undef :: undef :: undef :: undef :: undef :: undef :: []) s) t0 t3 t9 t10 t11 t12 s := by kernel_rfl
  rw [e2]
  exact hb

def f9xJ3 (C : CallT) (Q : Post) (s0 : St) (t9 : Value) (s : St) : Prop :=
  bindO (some t9) (fun x51 s =>
  bindO (some x51) (fun x8x2 s =>
  kEnd Q s0 (retV (consO (some x8x2) (some []))) s) s) s

def f9xE0x0 (C : CallT) (Q : Post) (s0 : St) (t9 : Value) (s : St) : Prop :=
  f9xJ3 C Q s0 t9 s

noncomputable def f9xK4 (C : CallT) (Q : Post) (s0 : St) : CPost := kSeq (evC P C h9 (cR (cR (cR (cR (cR (cF P 9)))))) 0 (kBody P (cN P 9) Q s0)) (kBody P (cN P 9) Q s0)

noncomputable def f9xK5 (C : CallT) (Q : Post) (s0 : St) : CPost := kBlock 0 (f9xK4 C Q s0)

theorem f9xE0x0xeq (C : CallT) (Q : Post) (s0 : St) (t0 t3 t9 t10 t11 t12 : Value) (s : St) : (f9xK5 C Q s0) (.exit 0) (ofL (t0 :: undef :: undef :: t3 :: undef :: undef :: undef :: undef :: undef :: t9 :: t10 :: t11 :: t12 :: undef :: undef :: undef :: undef :: undef :: undef :: undef :: undef :: undef :: undef :: undef :: undef :: undef :: undef :: undef :: undef :: undef :: undef :: undef :: undef :: undef :: undef :: undef :: undef :: undef :: undef :: undef :: undef :: undef :: undef :: undef :: undef :: undef :: undef :: undef :: undef :: undef :: undef :: undef :: [])) s = f9xE0x0 C Q s0 t9 s := by kernel_rfl

def f9xJ6 (C : CallT) (Q : Post) (s0 : St) (t0 t1 t2 t3 : Value) (s : St) : Prop :=
  bindO (some (.slice none 0 0)) (fun x9 s =>
  bindO (some t1) (fun x15 s =>
  callF P C (fv 23) [x15] (fun x16 s =>
  bindO (some t2) (fun x17 s =>
  callF P C (fv 23) [x17] (fun x18 s =>
  bindO (some x16) (fun x10 s =>
  bindO (some x18) (fun x11 s =>
  bindO (some (.int .u64 1)) (fun x12 s =>
  evC P C h9 f9xl0 0 (f9xK5 C Q s0) (ofL (t0 :: undef :: undef :: t3 :: undef :: undef :: undef :: undef :: undef :: x9 :: x10 :: x11 :: x12 :: undef :: undef :: undef :: undef :: undef :: undef :: undef :: undef :: undef :: undef :: undef :: undef :: undef :: undef :: undef :: undef :: undef :: undef :: undef :: undef :: undef :: undef :: undef :: undef :: undef :: undef :: undef :: undef :: undef :: undef :: undef :: undef :: undef :: undef :: undef :: undef :: undef :: undef :: undef :: [])) s) s) s) s) s) s) s) s) s

def f9xS (C : CallT) (Q : Post) (t0 t1 t2 t3 : Value) (s0 : St) : Prop :=
  bindO (some (.slice none 0 0)) (fun x8 s =>
  bindO (some t0) (fun x13 s =>
  bindO (binV P .eql 24 x13 (.pointer none)) (fun x14 s =>
  condW x14
  (bindO (some (.slice none 0 0)) (fun x8x1 s =>
  kEnd Q s0 (retV (consO (some x8x1) (some []))) s) s)
  (f9xJ6 C Q s0 t0 t1 t2 t3 s)) s) s) s0

theorem f9xeq (C : CallT) (Q : Post) (t0 t1 t2 t3 : Value) (s0 : St) : bodyW P C wips 9 [t0, t1, t2, t3] Q s0 = f9xS C Q t0 t1 t2 t3 s0 := by kernel_rfl

/-! ### erewhile/erewhileref57.Leaks -/

noncomputable def f10xl0 : Code := (cL (cR (cL (cR (cR (cF P 10))))))
noncomputable def f10xb0 : Code := (cL (cL (cR (cL (cR (cR (cF P 10)))))))

def f10xJ1 (C : CallT) (K : CPost) (I : Value → Value → Value → Value → Value → Value → St → Prop) (t0 t1 t2 t3 t9 t10 : Value) (s : St) : Prop :=
  bindO (some t10) (fun x18 s =>
  bindO (binV P .add 28 x18 (.int .u64 1)) (fun x19 s =>
  bindO (some x19) (fun x10x1 s =>
  I t0 t1 t2 t3 t9 x10x1 s) s) s) s

def f10xJ2 (C : CallT) (K : CPost) (I : Value → Value → Value → Value → Value → Value → St → Prop) (t0 t1 t2 t3 t9 t10 : Value) (s : St) : Prop :=
  bindO (some t0) (fun x20 s =>
  bindO (some t10) (fun x21 s =>
  bindO (binV P .mul 28 (.int .u64 2) x21) (fun x22 s =>
  callF P C (fv 25) [x20, x22] (fun x23 s =>
  bindO (unV .not x23) (fun x24 s =>
  bindO (some x24) (fun x25 s =>
  gW (boolIs true x25) (fun k s => bindO (some t1) k s) (fun x26 s =>
  gW (boolIs true x25) (fun k s => bindO (some t10) k s) (fun x27 s =>
  gW (boolIs true x25) (fun k s => callF P C (fv 25) [x26, x27] k s) (fun x28 s =>
  gW (boolIs true x25) (fun k s => bindO (unV .not x28) k s) (fun x29 s =>
  bindO (pickV x25 x29 (.bool false)) (fun x30 s =>
  bindO (some x30) (fun x31 s =>
  gW (boolIs false x31) (fun k s => bindO (some t0) k s) (fun x32 s =>
  gW (boolIs false x31) (fun k s => bindO (some t10) k s) (fun x33 s =>
  gW (boolIs false x31) (fun k s => bindO (binV P .mul 28 (.int .u64 2) x33) k s) (fun x34 s =>
  gW (boolIs false x31) (fun k s => bindO (binV P .add 28 x34 (.int .u64 1)) k s) (fun x35 s =>
  gW (boolIs false x31) (fun k s => callF P C (fv 25) [x32, x35] k s) (fun x36 s =>
  gW (boolIs false x31) (fun k s => bindO (unV .not x36) k s) (fun x37 s =>
  gW (boolIs false x31) (fun k s => bindO (some x37) k s) (fun x38 s =>
  gW (boolIs true x38) (fun k s => bindO (some t2) k s) (fun x39 s =>
  gW (boolIs true x38) (fun k s => bindO (some t10) k s) (fun x40 s =>
  gW (boolIs true x38) (fun k s => callF P C (fv 25) [x39, x40] k s) (fun x41 s =>
  gW (boolIs true x38) (fun k s => bindO (unV .not x41) k s) (fun x42 s =>
  gW (boolIs false x31) (fun k s => bindO (pickV x38 x42 (.bool false)) k s) (fun x43 s =>
  bindO (pickV x31 (.bool true) x43) (fun x44 s =>
  condW x44
  (bindO (some t9) (fun x45 s =>
  bindO (some t10) (fun x46 s =>
  newW (bslN (tSlice P 22) 1 #[(0, x46)]) (fun x47 s =>
  apdW P (tSlice P 22) 22 x45 x47 (fun x48 s =>
  bindO (some x48) (fun x9x1 s =>
  f10xJ1 C K I t0 t1 t2 t3 x9x1 t10 s) s) s) s) s) s)
  (f10xJ1 C K I t0 t1 t2 t3 t9 t10 s)) s) s) s) s) s) s) s) s) s) s) s) s) s) s) s) s) s) s) s) s) s) s) s) s) s

def f10xB0 (C : CallT) (K : CPost) (I : Value → Value → Value → Value → Value → Value → St → Prop) (t0 t1 t2 t3 t9 t10 : Value) (s : St) : Prop :=
  bindO (some t10) (fun x11 s =>
  bindO (some t3) (fun x12 s =>
  bindO (binV P .leq 28 x11 x12) (fun x13 s =>
  bindO (some x13) (fun x14 s =>
  gW (boolIs true x14) (fun k s => bindO (some t10) k s) (fun x15 s =>
  gW (boolIs true x14) (fun k s => bindO (binV P .leq 28 x15 (.int .u64 65535)) k s) (fun x16 s =>
  bindO (pickV x14 x16 (.bool false)) (fun x17 s =>
  condW x17
  (f10xJ2 C K I t0 t1 t2 t3 t9 t10 s)
  (K (.exit 0) (ofL (t0 :: t1 :: t2 :: t3 :: undef :: undef :: undef :: undef :: undef :: t9 :: t10 :: undef :: undef :: undef :: undef :: undef :: undef :: undef :: undef :: undef :: undef :: undef :: undef :: undef :: undef :: undef :: undef :: undef :: undef :: undef :: undef :: undef :: undef :: undef :: undef :: undef :: undef :: undef :: undef :: undef :: undef :: undef :: undef :: undef :: undef :: undef :: undef :: undef :: undef :: undef :: [])) s)) s) s) s) s) s) s) s

theorem f10xloop0 {C : CallT} {K : CPost} {t0 t1 t2 t3 t9 t10 : Value} {s : St} (h : ∀ I : Value → Value → Value → Value → Value → Value → St → Prop, (∀ t0 t1 t2 t3 t9 t10 s, f10xB0 C K I t0 t1 t2 t3 t9 t10 s → I t0 t1 t2 t3 t9 t10 s) → I t0 t1 t2 t3 t9 t10 s) :
    evC P C h10 f10xl0 0 K (ofL (t0 :: t1 :: t2 :: t3 :: undef :: undef :: undef :: undef :: undef :: t9 :: t10 :: undef :: undef :: undef :: undef :: undef :: undef :: undef :: undef :: undef :: undef :: undef :: undef :: undef :: undef :: undef :: undef :: undef :: undef :: undef :: undef :: undef :: undef :: undef :: undef :: undef :: undef :: undef :: undef :: undef :: undef :: undef :: undef :: undef :: undef :: undef :: undef :: undef :: undef :: undef :: [])) s := by
  have e : evC P C h10 f10xl0 0 K (ofL (t0 :: t1 :: t2 :: t3 :: undef :: undef :: undef :: undef :: undef :: t9 :: t10 :: undef :: undef :: undef :: undef :: undef :: undef :: undef :: undef :: undef :: undef :: undef :: undef :: undef :: undef :: undef :: undef :: undef :: undef :: undef :: undef :: undef :: undef :: undef :: undef :: undef :: undef :: undef :: undef :: undef :: undef :: undef :: undef :: undef :: undef :: undef :: undef :: undef :: undef :: undef :: [])) s = LoopC P C h10 f10xb0 0 K (t0 :: t1 :: t2 :: t3 :: undef :: undef :: undef :: undef :: undef :: t9 :: t10 :: undef :: undef :: undef :: undef :: undef :: undef :: undef :: undef :: undef :: undef :: undef :: undef :: undef :: undef :: undef :: undef :: undef :: undef :: undef :: undef :: undef :: undef :: undef :: undef :: undef :: undef :: undef :: undef :: undef :: undef :: undef :: undef :: undef :: undef :: undef :: undef :: undef :: undef :: undef :: []) s := by kernel_rfl
  rw [e]
  intro J hJ
  refine h (fun t0 t1 t2 t3 t9 t10 s => J (t0 :: t1 :: t2 :: t3 :: undef :: undef :: undef :: undef :: undef :: t9 :: t10 :: undef :: undef :: undef :: undef :: undef :: undef :: undef :: undef :: undef :: undef :: undef :: undef :: undef :: undef :: undef :: undef :: undef :: undef :: undef :: undef :: undef :: undef :: undef :: undef :: undef :: undef :: undef :: undef :: undef :: undef :: undef :: undef :: undef :: undef :: undef :: undef :: undef :: undef :: undef :: []) s) (fun t0 t1 t2 t3 t9 t10 s hb => hJ _ s ?_)
  have e2 : evC P C h10 f10xb0 0 (kLoop h10 0 J K) (ofL (t0 :: t1 :: t2 :: t3 :: undef :: undef :: undef :: undef :: undef :: t9 :: t10 :: undef :: undef :: undef :: undef :: undef :: undef :: undef :: undef :: undef :: undef :: undef :: undef :: undef :: undef :: undef :: undef :: undef :: undef :: undef :: undef :: undef :: undef :: undef :: undef :: undef :: undef :: undef :: undef :: undef :: undef :: undef :: undef :: undef :: undef :: undef :: undef :: undef :: undef :: undef :: [])) s = f10xB0 C K (fun t0 t1 t2 t3 t9 t10 s => J (t0 :: t1 :: t2 :: t3 :: undef :: undef :: undef :: undef :: undef :: t9 :: t10 :: undef :: undef :: undef :: undef :: undef :: undef :: undef :: undef :: undef :: undef :: undef :: undef :: undef :: undef :: undef :: undef :: undef :: undef :: undef :: undef :: undef :: undef :: undef :: undef :: undef :: undef :: undef :: undef :: undef :: undef :: undef :: undef :: undef :: undef :: undef :: undef :: undef :: undef :: undef :: []) s) t0 t1 t2 t3 t9 t10 s := by kernel_rfl
  rw [e2]
  exact hb

def f10xJ3 (C : CallT) (Q : Post) (s0 : St) (t9 : Value) (s : St) : Prop :=
  bindO (some t9) (fun x49 s =>
  bindO (some x49) (fun x8x1 s =>
  kEnd Q s0 (retV (consO (some x8x1) (some []))) s) s) s

def f10xE0x0 (C : CallT) (Q : Post) (s0 : St) (t9 : Value) (s : St) : Prop :=
  f10xJ3 C Q s0 t9 s

noncomputable def f10xK4 (C : CallT) (Q : Post) (s0 : St) : CPost := kSeq (evC P C h10 (cR (cR (cR (cF P 10)))) 0 (kBody P (cN P 10) Q s0)) (kBody P (cN P 10) Q s0)

noncomputable def f10xK5 (C : CallT) (Q : Post) (s0 : St) : CPost := kBlock 0 (f10xK4 C Q s0)

theorem f10xE0x0xeq (C : CallT) (Q : Post) (s0 : St) (t0 t1 t2 t3 t9 t10 : Value) (s : St) : (f10xK5 C Q s0) (.exit 0) (ofL (t0 :: t1 :: t2 :: t3 :: undef :: undef :: undef :: undef :: undef :: t9 :: t10 :: undef :: undef :: undef :: undef :: undef :: undef :: undef :: undef :: undef :: undef :: undef :: undef :: undef :: undef :: undef :: undef :: undef :: undef :: undef :: undef :: undef :: undef :: undef :: undef :: undef :: undef :: undef :: undef :: undef :: undef :: undef :: undef :: undef :: undef :: undef :: undef :: undef :: undef :: undef :: [])) s = f10xE0x0 C Q s0 t9 s := by kernel_rfl

def f10xS (C : CallT) (Q : Post) (t0 t1 t2 t3 : Value) (s0 : St) : Prop :=
  bindO (some (.slice none 0 0)) (fun x8 s =>
  bindO (some (.slice none 0 0)) (fun x9 s =>
  bindO (some (.int .u64 1)) (fun x10 s =>
  evC P C h10 f10xl0 0 (f10xK5 C Q s0) (ofL (t0 :: t1 :: t2 :: t3 :: undef :: undef :: undef :: undef :: undef :: x9 :: x10 :: undef :: undef :: undef :: undef :: undef :: undef :: undef :: undef :: undef :: undef :: undef :: undef :: undef :: undef :: undef :: undef :: undef :: undef :: undef :: undef :: undef :: undef :: undef :: undef :: undef :: undef :: undef :: undef :: undef :: undef :: undef :: undef :: undef :: undef :: undef :: undef :: undef :: undef :: undef :: [])) s) s) s) s0

theorem f10xeq (C : CallT) (Q : Post) (t0 t1 t2 t3 : Value) (s0 : St) : bodyW P C wips 10 [t0, t1, t2, t3] Q s0 = f10xS C Q t0 t1 t2 t3 s0 := by kernel_rfl

/-! ### erewhile/erewhilelaw57.CheckKept$1 -/

noncomputable def f11xl0 : Code := (cL (cR (cL (cR (cF P 11)))))
noncomputable def f11xb0 : Code := (cL (cL (cR (cL (cR (cF P 11))))))

def f11xJ1 (C : CallT) (K : CPost) (I : Value → Value → Value → Value → St → Prop) (t0 t1 t4 t5 : Value) (s : St) : Prop :=
  bindO (some t5) (fun x10 s =>
  bindO (binV P .add 3 x10 (.int .i64 1)) (fun x11 s =>
  bindO (some x11) (fun x5x1 s =>
  I t0 t1 t4 x5x1 s) s) s) s

def f11xJ2 (C : CallT) (K : CPost) (I : Value → Value → Value → Value → St → Prop) (t0 t1 t4 t5 : Value) (s : St) : Prop :=
  bindO (some t0) (fun x12 s =>
  bindO (some t5) (fun x13 s =>
  bindO (idxAddr (tElem P 22) x12 x13) (fun x14 s =>
  bindO (loadV (tAgg P 28) x14 s) (fun x15 s =>
  bindO (some t1) (fun x16 s =>
  bindO (binV P .eql 28 x15 x16) (fun x17 s =>
  condW x17
  (bindO (some (.bool true)) (fun x4x1 s =>
  K .ret (ofL (t0 :: t1 :: undef :: undef :: x4x1 :: t5 :: undef :: undef :: undef :: undef :: undef :: undef :: undef :: undef :: undef :: undef :: undef :: undef :: [])) s) s)
  (f11xJ1 C K I t0 t1 t4 t5 s)) s) s) s) s) s) s

def f11xB0 (C : CallT) (K : CPost) (I : Value → Value → Value → Value → St → Prop) (t0 t1 t4 t5 : Value) (s : St) : Prop :=
  bindO (some t5) (fun x6 s =>
  bindO (some t0) (fun x7 s =>
  bindO (lenR P 22 x7 s) (fun x8 s =>
  bindO (binV P .lss 3 x6 x8) (fun x9 s =>
  condW x9
  (f11xJ2 C K I t0 t1 t4 t5 s)
  (K (.exit 0) (ofL (t0 :: t1 :: undef :: undef :: t4 :: t5 :: undef :: undef :: undef :: undef :: undef :: undef :: undef :: undef :: undef :: undef :: undef :: undef :: [])) s)) s) s) s) s

theorem f11xloop0 {C : CallT} {K : CPost} {t0 t1 t4 t5 : Value} {s : St} (h : ∀ I : Value → Value → Value → Value → St → Prop, (∀ t0 t1 t4 t5 s, f11xB0 C K I t0 t1 t4 t5 s → I t0 t1 t4 t5 s) → I t0 t1 t4 t5 s) :
    evC P C h11 f11xl0 0 K (ofL (t0 :: t1 :: undef :: undef :: t4 :: t5 :: undef :: undef :: undef :: undef :: undef :: undef :: undef :: undef :: undef :: undef :: undef :: undef :: [])) s := by
  have e : evC P C h11 f11xl0 0 K (ofL (t0 :: t1 :: undef :: undef :: t4 :: t5 :: undef :: undef :: undef :: undef :: undef :: undef :: undef :: undef :: undef :: undef :: undef :: undef :: [])) s = LoopC P C h11 f11xb0 0 K (t0 :: t1 :: undef :: undef :: t4 :: t5 :: undef :: undef :: undef :: undef :: undef :: undef :: undef :: undef :: undef :: undef :: undef :: undef :: []) s := by kernel_rfl
  rw [e]
  intro J hJ
  refine h (fun t0 t1 t4 t5 s => J (t0 :: t1 :: undef :: undef :: t4 :: t5 :: undef :: undef :: undef :: undef :: undef :: undef :: undef :: undef :: undef :: undef :: undef :: undef :: []) s) (fun t0 t1 t4 t5 s hb => hJ _ s ?_)
  have e2 : evC P C h11 f11xb0 0 (kLoop h11 0 J K) (ofL (t0 :: t1 :: undef :: undef :: t4 :: t5 :: undef :: undef :: undef :: undef :: undef :: undef :: undef :: undef :: undef :: undef :: undef :: undef :: [])) s = f11xB0 C K (fun t0 t1 t4 t5 s => J (t0 :: t1 :: undef :: undef :: t4 :: t5 :: undef :: undef :: undef :: undef :: undef :: undef :: undef :: undef :: undef :: undef :: undef :: undef :: []) s) t0 t1 t4 t5 s := by kernel_rfl
  rw [e2]
  exact hb

def f11xJ3 (C : CallT) (Q : Post) (s0 : St) (s : St) : Prop :=
  bindO (some (.bool false)) (fun x4x2 s =>
  kEnd Q s0 (retV (consO (some x4x2) (some []))) s) s

def f11xE0x0 (C : CallT) (Q : Post) (s0 : St) (s : St) : Prop :=
  f11xJ3 C Q s0  s

noncomputable def f11xK4 (C : CallT) (Q : Post) (s0 : St) : CPost := kSeq (evC P C h11 (cR (cR (cF P 11))) 0 (kBody P (cN P 11) Q s0)) (kBody P (cN P 11) Q s0)

noncomputable def f11xK5 (C : CallT) (Q : Post) (s0 : St) : CPost := kBlock 0 (f11xK4 C Q s0)

theorem f11xE0x0xeq (C : CallT) (Q : Post) (s0 : St) (t0 t1 t4 t5 : Value) (s : St) : (f11xK5 C Q s0) (.exit 0) (ofL (t0 :: t1 :: undef :: undef :: t4 :: t5 :: undef :: undef :: undef :: undef :: undef :: undef :: undef :: undef :: undef :: undef :: undef :: undef :: [])) s = f11xE0x0 C Q s0  s := by kernel_rfl

def f11xE0xret (C : CallT) (Q : Post) (s0 : St) (t4 : Value) (s : St) : Prop :=
  kEnd Q s0 (retV (consO (some t4) (some []))) s

theorem f11xE0xret_eq (C : CallT) (Q : Post) (s0 : St) (t0 t1 t4 t5 : Value) (s : St) : (f11xK5 C Q s0) .ret (ofL (t0 :: t1 :: undef :: undef :: t4 :: t5 :: undef :: undef :: undef :: undef :: undef :: undef :: undef :: undef :: undef :: undef :: undef :: undef :: [])) s = f11xE0xret C Q s0 t4 s := by kernel_rfl

def f11xS (C : CallT) (Q : Post) (t0 t1 : Value) (s0 : St) : Prop :=
  bindO (some (.bool false)) (fun x4 s =>
  bindO (some (.int .i64 0)) (fun x5 s =>
  evC P C h11 f11xl0 0 (f11xK5 C Q s0) (ofL (t0 :: t1 :: undef :: undef :: x4 :: x5 :: undef :: undef :: undef :: undef :: undef :: undef :: undef :: undef :: undef :: undef :: undef :: undef :: [])) s) s) s0

theorem f11xeq (C : CallT) (Q : Post) (t0 t1 : Value) (s0 : St) : bodyW P C wips 11 [t0, t1] Q s0 = f11xS C Q t0 t1 s0 := by kernel_rfl

/-! ### erewhile/api.Leaf -/

def f12xS (C : CallT) (Q : Post) (t0 : Value) (s0 : St) : Prop :=
  bindO (some (.int .u64 0)) (fun x2 s =>
  bindO (some t0) (fun x3 s =>
  bindO (binV P .mul 28 (.int .u64 2) x3) (fun x4 s =>
  bindO (some x4) (fun x2x1 s =>
  kEnd Q s0 (retV (consO (some x2x1) (some []))) s) s) s) s) s0

theorem f12xeq (C : CallT) (Q : Post) (t0 : Value) (s0 : St) : bodyW P C wips 12 [t0] Q s0 = f12xS C Q t0 s0 := by kernel_rfl

/-! ### erewhile/api.Token -/

def f13xS (C : CallT) (Q : Post) (t0 : Value) (s0 : St) : Prop :=
  bindO (some (.int .u64 0)) (fun x2 s =>
  bindO (some t0) (fun x3 s =>
  bindO (binV P .mul 28 (.int .u64 2) x3) (fun x4 s =>
  bindO (binV P .add 28 x4 (.int .u64 1)) (fun x5 s =>
  bindO (some x5) (fun x2x1 s =>
  kEnd Q s0 (retV (consO (some x2x1) (some []))) s) s) s) s) s) s0

theorem f13xeq (C : CallT) (Q : Post) (t0 : Value) (s0 : St) : bodyW P C wips 13 [t0] Q s0 = f13xS C Q t0 s0 := by kernel_rfl

/-! ### erewhile/check.Fine -/

def f14xS (C : CallT) (Q : Post) (t0 : Value) (s0 : St) : Prop :=
  newW (boxN t0) (fun x1 s =>
  bindO (some (.bool false)) (fun x2 s =>
  bindO (ptrAdd (tField P 42 2) x1) (fun x3 s =>
  bindO (loadV (tAgg P 3) x3 s) (fun x4 s =>
  bindO (binV P .eql 3 x4 (.int .i64 0)) (fun x5 s =>
  bindO (some x5) (fun x6 s =>
  gW (boolIs true x6) (fun k s => bindO (ptrAdd (tField P 42 3) x1) k s) (fun x7 s =>
  gW (boolIs true x6) (fun k s => bindO (loadV (tAgg P 3) x7 s) k s) (fun x8 s =>
  gW (boolIs true x6) (fun k s => bindO (binV P .eql 3 x8 (.int .i64 0)) k s) (fun x9 s =>
  bindO (pickV x6 x9 (.bool false)) (fun x10 s =>
  bindO (some x10) (fun x2x1 s =>
  kEnd Q s0 (retV (consO (some x2x1) (some []))) s) s) s) s) s) s) s) s) s) s) s) s0

theorem f14xeq (C : CallT) (Q : Post) (t0 : Value) (s0 : St) : bodyW P C wips 14 [t0] Q s0 = f14xS C Q t0 s0 := by kernel_rfl

/-! ### (*erewhile/keytree.Tree).find -/

def f15xJ1 (C : CallT) (Q : Post) (s0 : St) (t6 : Value) (s : St) : Prop :=
  bindO (some t6) (fun x52 s =>
  bindO (binV P .sub 3 x52 (.int .i64 1)) (fun x53 s =>
  bindO (some x53) (fun x4x4 s =>
  bindO (some (.bool true)) (fun x5x4 s =>
  kEnd Q s0 (retV (consO (some x4x4) (consO (some x5x4) (some [])))) s) s) s) s) s

def f15xJ2 (C : CallT) (Q : Post) (s0 : St) (t0 t1 t6 : Value) (s : St) : Prop :=
  optW (some t6) (fun x26 =>
  optW (binV P .eql 3 x26 (.int .i64 0)) (fun x27 =>
  optW (some x27) (fun x28 =>
  optW (gO (boolIs false x28) (some t1)) (fun x29 =>
  optW (gO (boolIs false x28) (some t0)) (fun x30 =>
  optW (gO (boolIs false x28) (nilV x30)) (fun x31 =>
  optW (gO (boolIs false x28) (ptrAdd (tField P 49 1) x31)) (fun x32 =>
  optW (gO (boolIs false x28) (loadV (tAgg P 47) x32 s)) (fun x33 =>
  optW (gO (boolIs false x28) (some t6)) (fun x34 =>
  optW (gO (boolIs false x28) (binV P .sub 3 x34 (.int .i64 1))) (fun x35 =>
  optW (gO (boolIs false x28) (idxAddr (tElem P 47) x33 x35)) (fun x36 =>
  optW (gO (boolIs false x28) (ptrAdd (tField P 46 1) x36)) (fun x37 =>
  optW (gO (boolIs false x28) (loadV (tAgg P 28) x37 s)) (fun x38 =>
  optW (gO (boolIs false x28) (binV P .sub 28 x29 x38)) (fun x39 =>
  optW (gO (boolIs false x28) (some t0)) (fun x40 =>
  optW (gO (boolIs false x28) (nilV x40)) (fun x41 =>
  optW (gO (boolIs false x28) (ptrAdd (tField P 49 1) x41)) (fun x42 =>
  optW (gO (boolIs false x28) (loadV (tAgg P 47) x42 s)) (fun x43 =>
  optW (gO (boolIs false x28) (some t6)) (fun x44 =>
  optW (gO (boolIs false x28) (binV P .sub 3 x44 (.int .i64 1))) (fun x45 =>
  optW (gO (boolIs false x28) (idxAddr (tElem P 47) x43 x45)) (fun x46 =>
  optW (gO (boolIs false x28) (ptrAdd (tField P 46 0) x46)) (fun x47 =>
  optW (gO (boolIs false x28) (loadV (tAgg P 3) x47 s)) (fun x48 =>
  gW (boolIs false x28) (fun k s => callF P C (fv 26) [x48] k s) (fun x49 s =>
  chkW (boolIs false x28) ((loadV (tAgg P 47) x32 s) = some x33) (chkW (boolIs false x28) ((loadV (tAgg P 28) x37 s) = some x38) (optW (gO (boolIs false x28) (binV P .geq 28 x39 x49)) (fun x50 =>
  optW (pickV x28 (.bool true) x50) (fun x51 =>
  condW x51
  (bindO (some (.int .i64 0)) (fun x4x3 s =>
  bindO (some (.bool false)) (fun x5x3 s =>
  kEnd Q s0 (retV (consO (some x4x3) (consO (some x5x3) (some [])))) s) s) s)
  (f15xJ1 C Q s0 t6 s)))))) s)))))))))))))))))))))))

def f15xJ3 (C : CallT) (Q : Post) (s0 : St) (t0 t1 : Value) (s : St) : Prop :=
  bindO (some t0) (fun x16 s =>
  bindO (nilV x16) (fun x17 s =>
  bindO (ptrAdd (tField P 49 1) x17) (fun x18 s =>
  bindO (loadV (tAgg P 47) x18 s) (fun x19 s =>
  bindO (some t1) (fun x20 s =>
  callF P C (fv 27) [x19, x20, (fv 28)] (fun x21 s =>
  bindO (some x21) (fun x15 s =>
  bindO (extV x15 0) (fun x22 s =>
  bindO (extV x15 1) (fun x23 s =>
  bindO (some x22) (fun x6 s =>
  bindO (some x23) (fun x7 s =>
  bindO (some x7) (fun x24 s =>
  condW x24
  (bindO (some x6) (fun x25 s =>
  bindO (some x25) (fun x4x2 s =>
  bindO (some (.bool true)) (fun x5x2 s =>
  kEnd Q s0 (retV (consO (some x4x2) (consO (some x5x2) (some [])))) s) s) s) s)
  (f15xJ2 C Q s0 t0 t1 x6 s)) s) s) s) s) s) s) s) s) s) s) s) s

def f15xS (C : CallT) (Q : Post) (t0 t1 : Value) (s0 : St) : Prop :=
  bindO (some (.int .i64 0)) (fun x4 s =>
  bindO (some (.bool false)) (fun x5 s =>
  bindO (some t0) (fun x8 s =>
  bindO (binV P .eql 24 x8 (.pointer none)) (fun x9 s =>
  bindO (some x9) (fun x10 s =>
  gW (boolIs false x10) (fun k s => bindO (some t1) k s) (fun x11 s =>
  gW (boolIs false x10) (fun k s => callF P C (fv 26) [(.int .i64 0)] k s) (fun x12 s =>
  gW (boolIs false x10) (fun k s => bindO (binV P .geq 28 x11 x12) k s) (fun x13 s =>
  bindO (pickV x10 (.bool true) x13) (fun x14 s =>
  condW x14
  (bindO (some (.int .i64 0)) (fun x4x1 s =>
  bindO (some (.bool false)) (fun x5x1 s =>
  kEnd Q s0 (retV (consO (some x4x1) (consO (some x5x1) (some [])))) s) s) s)
  (f15xJ3 C Q s0 t0 t1 s)) s) s) s) s) s) s) s) s) s0

theorem f15xeq (C : CallT) (Q : Post) (t0 t1 : Value) (s0 : St) : bodyW P C wips 15 [t0, t1] Q s0 = f15xS C Q t0 t1 s0 := by kernel_rfl

/-! ### (*erewhile/keytree.Tree).down -/

noncomputable def f16xl0 : Code := (cL (cL (cR (cR (cF P 16)))))
noncomputable def f16xb0 : Code := (cL (cL (cL (cR (cR (cF P 16))))))

def f16xJ1 (C : CallT) (K : CPost) (I : Value → Value → Value → Value → Value → St → Prop) (t2 t3 t5 t8 t9 t10 t11 : Value) (s : St) : Prop :=
  bindO (some t3) (fun x28 s =>
  bindO (loadV (tAgg P 46) t11 s) (fun x29 s =>
  callF P C x28 [x29] (fun x30 s =>
  bindO (loadV (tAgg P 46) t10 s) (fun x31 s =>
  storeW (tSize P 46) t5 x31 (fun _ s =>
  I t2 t3 t5 t8 t9 s) s) s) s) s) s

def f16xJ2 (C : CallT) (K : CPost) (I : Value → Value → Value → Value → Value → St → Prop) (t2 t3 t5 t8 t9 : Value) (s : St) : Prop :=
  bindO (some t9) (fun x17 s =>
  bindO (loadV (tAgg P 46) t5 s) (fun x18 s =>
  callF P C x17 [x18] (fun x19 s =>
  bindO (some x19) (fun x16 s =>
  bindO (extV x16 0) (fun x20 s =>
  bindO (extV x16 1) (fun x21 s =>
  newW (zeroN (tZero P 46)) (fun x10 s =>
  newW (zeroN (tZero P 46)) (fun x11 s =>
  storeW (tSize P 46) x10 x20 (fun _ s =>
  storeW (tSize P 46) x11 x21 (fun _ s =>
  bindO (some t2) (fun x22 s =>
  bindO (ptrAdd (tField P 46 1) x11) (fun x23 s =>
  bindO (loadV (tAgg P 28) x23 s) (fun x24 s =>
  bindO (binV P .geq 28 x22 x24) (fun x25 s =>
  condW x25
  (bindO (loadV (tAgg P 46) x11 s) (fun x26 s =>
  bindO (loadV (tAgg P 46) x10 s) (fun x27 s =>
  storeW (tSize P 46) x10 x26 (fun _ s =>
  storeW (tSize P 46) x11 x27 (fun _ s =>
  f16xJ1 C K I t2 t3 t5 t8 t9 x10 x11 s) s) s) s) s)
  (f16xJ1 C K I t2 t3 t5 t8 t9 x10 x11 s)) s) s) s) s) s) s) s) s) s) s) s) s) s) s

def f16xB0 (C : CallT) (K : CPost) (I : Value → Value → Value → Value → Value → St → Prop) (t2 t3 t5 t8 t9 : Value) (s : St) : Prop :=
  bindO (ptrAdd (tField P 46 0) t5) (fun x13 s =>
  bindO (loadV (tAgg P 3) x13 s) (fun x14 s =>
  bindO (binV P .lss 3 x14 (.int .i64 17)) (fun x15 s =>
  condW x15
  (f16xJ2 C K I t2 t3 t5 t8 t9 s)
  (K (.exit 0) (ofL (undef :: undef :: t2 :: t3 :: undef :: t5 :: undef :: undef :: t8 :: t9 :: undef :: undef :: undef :: undef :: undef :: undef :: undef :: undef :: undef :: undef :: undef :: undef :: undef :: undef :: undef :: undef :: undef :: undef :: undef :: undef :: undef :: undef :: undef :: undef :: [])) s)) s) s) s

theorem f16xloop0 {C : CallT} {K : CPost} {t2 t3 t5 t8 t9 : Value} {s : St} (h : ∀ I : Value → Value → Value → Value → Value → St → Prop, (∀ t2 t3 t5 t8 t9 s, f16xB0 C K I t2 t3 t5 t8 t9 s → I t2 t3 t5 t8 t9 s) → I t2 t3 t5 t8 t9 s) :
    evC P C h16 f16xl0 0 K (ofL (undef :: undef :: t2 :: t3 :: undef :: t5 :: undef :: undef :: t8 :: t9 :: undef :: undef :: undef :: undef :: undef :: undef :: undef :: undef :: undef :: undef :: undef :: undef :: undef :: undef :: undef :: undef :: undef :: undef :: undef :: undef :: undef :: undef :: undef :: undef :: [])) s := by
  have e : evC P C h16 f16xl0 0 K (ofL (undef :: undef :: t2 :: t3 :: undef :: t5 :: undef :: undef :: t8 :: t9 :: undef :: undef :: undef :: undef :: undef :: undef :: undef :: undef :: undef :: undef :: undef :: undef :: undef :: undef :: undef :: undef :: undef :: undef :: undef :: undef :: undef :: undef :: undef :: undef :: [])) s = LoopC P C h16 f16xb0 0 K (undef :: undef :: t2 :: t3 :: undef :: t5 :: undef :: undef :: t8 :: t9 :: undef :: undef :: undef :: undef :: undef :: undef :: undef :: undef :: undef :: undef :: undef :: undef :: undef :: undef :: undef :: undef :: undef :: undef :: undef :: undef :: undef :: undef :: undef :: undef :: []) s := by kernel_rfl
  rw [e]
  intro J hJ
  refine h (fun t2 t3 t5 t8 t9 s => J (undef :: undef :: t2 :: t3 :: undef :: t5 :: undef :: undef :: t8 :: t9 :: undef :: undef :: undef :: undef :: undef :: undef :: undef :: undef :: undef :: undef :: undef :: undef :: undef :: undef :: undef :: undef :: undef :: undef :: undef :: undef :: undef :: undef :: undef :: undef :: []) s) (fun t2 t3 t5 t8 t9 s hb => hJ _ s ?_)
  have e2 : evC P C h16 f16xb0 0 (kLoop h16 0 J K) (ofL (undef :: undef :: t2 :: t3 :: undef :: t5 :: undef :: undef :: t8 :: t9 :: undef :: undef :: undef :: undef :: undef :: undef :: undef :: undef :: undef :: undef :: undef :: undef :: undef :: undef :: undef :: undef :: undef :: undef :: undef :: undef :: undef :: undef :: undef :: undef :: [])) s = f16xB0 C K (fun t2 t3 t5 t8 t9 s => J (undef :: undef :: t2 :: t3 :: undef :: t5 :: undef :: undef :: t8 :: t9 :: undef :: undef :: undef :: undef :: undef :: undef :: undef :: undef :: undef :: undef :: undef :: undef :: undef :: undef :: undef :: undef :: undef :: undef :: undef :: undef :: undef :: undef :: undef :: undef :: []) s) t2 t3 t5 t8 t9 s := by kernel_rfl
  rw [e2]
  exact hb

def f16xJ3 (C : CallT) (Q : Post) (s0 : St) (t5 t8 : Value) (s : St) : Prop :=
  bindO (ptrAdd (tField P 46 2) t5) (fun x32 s =>
  bindO (loadV (tAgg P 27) x32 s) (fun x33 s =>
  storeW (tSize P 27) t8 x33 (fun _ s =>
  kEnd Q s0 (retV (consO (loadV (tAgg P 27) t8 s) (some []))) s) s) s) s

def f16xE0x0 (C : CallT) (Q : Post) (s0 : St) (t5 t8 : Value) (s : St) : Prop :=
  f16xJ3 C Q s0 t5 t8 s

noncomputable def f16xK4 (C : CallT) (Q : Post) (s0 : St) : CPost := kSeq (evC P C h16 (cR (cR (cR (cF P 16)))) 0 (kBody P (cN P 16) Q s0)) (kBody P (cN P 16) Q s0)

noncomputable def f16xK5 (C : CallT) (Q : Post) (s0 : St) : CPost := kBlock 0 (f16xK4 C Q s0)

theorem f16xE0x0xeq (C : CallT) (Q : Post) (s0 : St) (t2 t3 t5 t8 t9 : Value) (s : St) : (f16xK5 C Q s0) (.exit 0) (ofL (undef :: undef :: t2 :: t3 :: undef :: t5 :: undef :: undef :: t8 :: t9 :: undef :: undef :: undef :: undef :: undef :: undef :: undef :: undef :: undef :: undef :: undef :: undef :: undef :: undef :: undef :: undef :: undef :: undef :: undef :: undef :: undef :: undef :: undef :: undef :: [])) s = f16xE0x0 C Q s0 t5 t8 s := by kernel_rfl

def f16xS (C : CallT) (Q : Post) (t0 t1 t2 t3 : Value) (s0 : St) : Prop :=
  newW (boxN t0) (fun x4 s =>
  newW (boxN t1) (fun x5 s =>
  newW (zeroN (tZero P 27)) (fun x8 s =>
  bindO (mkFn 29 0 #[x4]) (fun x12 s =>
  bindO (some x12) (fun x9 s =>
  evC P C h16 f16xl0 0 (f16xK5 C Q s0) (ofL (undef :: undef :: t2 :: t3 :: undef :: x5 :: undef :: undef :: x8 :: x9 :: undef :: undef :: undef :: undef :: undef :: undef :: undef :: undef :: undef :: undef :: undef :: undef :: undef :: undef :: undef :: undef :: undef :: undef :: undef :: undef :: undef :: undef :: undef :: undef :: [])) s) s) s) s) s) s0

theorem f16xeq (C : CallT) (Q : Post) (t0 t1 t2 t3 : Value) (s0 : St) : bodyW P C wips 16 [t0, t1, t2, t3] Q s0 = f16xS C Q t0 t1 t2 t3 s0 := by kernel_rfl

/-! ### (*erewhile/keytree.Tree).Puncture$1 -/

def f17xS (C : CallT) (Q : Post) (t0 t1 : Value) (s0 : St) : Prop :=
  newW (boxN t0) (fun x2 s =>
  bindO (loadV (tAgg P 47) t1 s) (fun x3 s =>
  bindO (loadV (tAgg P 46) x2 s) (fun x4 s =>
  newW (bslN (tSlice P 47) 1 #[(0, x4)]) (fun x5 s =>
  apdW P (tSlice P 47) 47 x3 x5 (fun x6 s =>
  storeW (tSize P 47) t1 x6 (fun _ s =>
  kEnd Q s0 (retV (some [])) s) s) s) s) s) s) s0

theorem f17xeq (C : CallT) (Q : Post) (t0 t1 : Value) (s0 : St) : bodyW P C wips 17 [t0, t1] Q s0 = f17xS C Q t0 t1 s0 := by kernel_rfl

/-! ### (*erewhile/keytree.Tree).Puncture$2 -/

def f19xS (C : CallT) (Q : Post) (t0 t1 : Value) (s0 : St) : Prop :=
  newW (boxN t0) (fun x2 s =>
  newW (boxN t1) (fun x3 s =>
  bindO (some (.int .i64 0)) (fun x4 s =>
  bindO (ptrAdd (tField P 46 1) x2) (fun x5 s =>
  bindO (loadV (tAgg P 28) x5 s) (fun x6 s =>
  bindO (ptrAdd (tField P 46 1) x3) (fun x7 s =>
  bindO (loadV (tAgg P 28) x7 s) (fun x8 s =>
  callF P C (fv 20) [x6, x8] (fun x9 s =>
  bindO (some x9) (fun x4x1 s =>
  kEnd Q s0 (retV (consO (some x4x1) (some []))) s) s) s) s) s) s) s) s) s) s0

theorem f19xeq (C : CallT) (Q : Post) (t0 t1 : Value) (s0 : St) : bodyW P C wips 19 [t0, t1] Q s0 = f19xS C Q t0 t1 s0 := by kernel_rfl

/-! ### cmp.Compare[uint64] -/

def f20xJ1 (C : CallT) (Q : Post) (s0 : St) (s : St) : Prop :=
  bindO (some (.int .i64 (-1))) (fun x4x2 s =>
  kEnd Q s0 (retV (consO (some x4x2) (some []))) s) s

def f20xJ2 (C : CallT) (Q : Post) (s0 : St) (s : St) : Prop :=
  bindO (some (.int .i64 0)) (fun x4x6 s =>
  kEnd Q s0 (retV (consO (some x4x6) (some []))) s) s

def f20xJ3 (C : CallT) (Q : Post) (s0 : St) (t0 t1 : Value) (s : St) : Prop :=
  bindO (some t0) (fun x17 s =>
  bindO (some t1) (fun x18 s =>
  bindO (binV P .gtr 28 x17 x18) (fun x19 s =>
  condW x19
  (bindO (some (.int .i64 1)) (fun x4x5 s =>
  kEnd Q s0 (retV (consO (some x4x5) (some []))) s) s)
  (f20xJ2 C Q s0  s)) s) s) s

def f20xJ4 (C : CallT) (Q : Post) (s0 : St) (t0 t1 : Value) (s : St) : Prop :=
  bindO (some t0) (fun x14 s =>
  bindO (some t1) (fun x15 s =>
  bindO (binV P .lss 28 x14 x15) (fun x16 s =>
  condW x16
  (bindO (some (.int .i64 (-1))) (fun x4x4 s =>
  kEnd Q s0 (retV (consO (some x4x4) (some []))) s) s)
  (f20xJ3 C Q s0 t0 t1 s)) s) s) s

def f20xJ5 (C : CallT) (Q : Post) (s0 : St) (t0 t1 t6 : Value) (s : St) : Prop :=
  bindO (some t6) (fun x13 s =>
  condW x13
  (bindO (some (.int .i64 1)) (fun x4x3 s =>
  kEnd Q s0 (retV (consO (some x4x3) (some []))) s) s)
  (f20xJ4 C Q s0 t0 t1 s)) s

def f20xS (C : CallT) (Q : Post) (t0 t1 : Value) (s0 : St) : Prop :=
  bindO (some (.int .i64 0)) (fun x4 s =>
  bindO (some t0) (fun x7 s =>
  callF P C (fv 32) [x7] (fun x8 s =>
  bindO (some x8) (fun x5 s =>
  bindO (some t1) (fun x9 s =>
  callF P C (fv 32) [x9] (fun x10 s =>
  bindO (some x10) (fun x6 s =>
  bindO (some x5) (fun x11 s =>
  condW x11
  (bindO (some x6) (fun x12 s =>
  condW x12
  (bindO (some (.int .i64 0)) (fun x4x1 s =>
  kEnd Q s0 (retV (consO (some x4x1) (some []))) s) s)
  (f20xJ1 C Q s0  s)) s)
  (f20xJ5 C Q s0 t0 t1 x6 s)) s) s) s) s) s) s) s) s0

theorem f20xeq (C : CallT) (Q : Post) (t0 t1 : Value) (s0 : St) : bodyW P C wips 20 [t0, t1] Q s0 = f20xS C Q t0 t1 s0 := by kernel_rfl

/-! ### slices.Insert[[]erewhile/keytree.Held,erewhile/keytree.Held] -/

def f21xJ1 (C : CallT) (Q : Post) (s0 : St) (t0 t1 t2 t7 t8 : Value) (s : St) : Prop :=
  bindO (some t0) (fun x84 s =>
  bindO (some t8) (fun x85 s =>
  bindO (slcV P 47 x84 (some x85) none none s) (fun x86 s =>
  bindO (some t2) (fun x87 s =>
  cpyW (tSlice P 47) x86 x87 (fun x88 s =>
  bindO (some t0) (fun x89 s =>
  bindO (some t1) (fun x90 s =>
  bindO (slcV P 47 x89 (some x90) none none s) (fun x91 s =>
  bindO (some t7) (fun x92 s =>
  callF P C (fv 34) [x91, x92] (fun x93 s =>
  bindO (some t0) (fun x94 s =>
  bindO (some x94) (fun x6x5 s =>
  kEnd Q s0 (retV (consO (some x6x5) (some []))) s) s) s) s) s) s) s) s) s) s) s) s) s

def f21xJ2 (C : CallT) (Q : Post) (s0 : St) (t0 t1 t2 t7 t8 : Value) (s : St) : Prop :=
  bindO (some t0) (fun x56 s =>
  bindO (some t8) (fun x57 s =>
  bindO (some t7) (fun x58 s =>
  bindO (binV P .add 3 x57 x58) (fun x59 s =>
  bindO (slcV P 47 x56 none (some x59) none s) (fun x60 s =>
  bindO (some x60) (fun x0 s =>
  bindO (some t2) (fun x61 s =>
  bindO (some x0) (fun x62 s =>
  bindO (some t1) (fun x63 s =>
  bindO (some t7) (fun x64 s =>
  bindO (binV P .add 3 x63 x64) (fun x65 s =>
  bindO (slcV P 47 x62 (some x65) none none s) (fun x66 s =>
  callF P C (fv 33) [x61, x66] (fun x67 s =>
  bindO (unV .not x67) (fun x68 s =>
  condW x68
  (optW (some x0) (fun x69 =>
  optW (some t1) (fun x70 =>
  optW (some t7) (fun x71 =>
  optW (binV P .add 3 x70 x71) (fun x72 =>
  optW (slcV P 47 x69 (some x72) none none s) (fun x73 =>
  optW (some x0) (fun x74 =>
  optW (some t1) (fun x75 =>
  optW (slcV P 47 x74 (some x75) none none s) (fun x76 =>
  cpyW (tSlice P 47) x73 x76 (fun x77 s =>
  bindO (some x0) (fun x78 s =>
  bindO (some t1) (fun x79 s =>
  bindO (slcV P 47 x78 (some x79) none none s) (fun x80 s =>
  bindO (some t2) (fun x81 s =>
  cpyW (tSlice P 47) x80 x81 (fun x82 s =>
  bindO (some x0) (fun x83 s =>
  bindO (some x83) (fun x6x4 s =>
  kEnd Q s0 (retV (consO (some x6x4) (some []))) s) s) s) s) s) s) s) s) s)))))))))
  (f21xJ1 C Q s0 x0 t1 t2 t7 t8 s)) s) s) s) s) s) s) s) s) s) s) s) s) s) s

def f21xJ3 (C : CallT) (Q : Post) (s0 : St) (t0 t1 t2 t7 t8 : Value) (s : St) : Prop :=
  bindO (some t8) (fun x26 s =>
  bindO (some t7) (fun x27 s =>
  bindO (binV P .add 3 x26 x27) (fun x28 s =>
  bindO (some t0) (fun x29 s =>
  capW P 47 x29 (fun x30 s =>
  bindO (binV P .gtr 3 x28 x30) (fun x31 s =>
  condW x31
  (bindO (some t0) (fun x32 s =>
  bindO (some t1) (fun x33 s =>
  bindO (slcV P 47 x32 none (some x33) none s) (fun x34 s =>
  bindO (some t8) (fun x35 s =>
  bindO (some t7) (fun x36 s =>
  bindO (binV P .add 3 x35 x36) (fun x37 s =>
  bindO (some t1) (fun x38 s =>
  bindO (binV P .sub 3 x37 x38) (fun x39 s =>
  apdW P (tSlice P 47) 3 x34 x39 (fun x40 s =>
  bindO (some x40) (fun x9 s =>
  bindO (some x9) (fun x41 s =>
  bindO (some t1) (fun x42 s =>
  bindO (slcV P 47 x41 (some x42) none none s) (fun x43 s =>
  bindO (some t2) (fun x44 s =>
  cpyW (tSlice P 47) x43 x44 (fun x45 s =>
  optW (some x9) (fun x46 =>
  optW (some t1) (fun x47 =>
  optW (some t7) (fun x48 =>
  optW (binV P .add 3 x47 x48) (fun x49 =>
  optW (slcV P 47 x46 (some x49) none none s) (fun x50 =>
  optW (some t0) (fun x51 =>
  optW (some t1) (fun x52 =>
  optW (slcV P 47 x51 (some x52) none none s) (fun x53 =>
  cpyW (tSlice P 47) x50 x53 (fun x54 s =>
  bindO (some x9) (fun x55 s =>
  bindO (some x55) (fun x6x3 s =>
  kEnd Q s0 (retV (consO (some x6x3) (some []))) s) s) s) s))))))))) s) s) s) s) s) s) s) s) s) s) s) s) s) s) s)
  (f21xJ2 C Q s0 t0 t1 t2 t7 t8 s)) s) s) s) s) s) s

def f21xJ4 (C : CallT) (Q : Post) (s0 : St) (t0 t1 t2 t7 : Value) (s : St) : Prop :=
  bindO (some t0) (fun x18 s =>
  bindO (lenR P 47 x18 s) (fun x19 s =>
  bindO (some x19) (fun x8 s =>
  bindO (some t1) (fun x20 s =>
  bindO (some x8) (fun x21 s =>
  bindO (binV P .eql 3 x20 x21) (fun x22 s =>
  condW x22
  (bindO (some t0) (fun x23 s =>
  bindO (some t2) (fun x24 s =>
  apdW P (tSlice P 47) 47 x23 x24 (fun x25 s =>
  bindO (some x25) (fun x6x2 s =>
  kEnd Q s0 (retV (consO (some x6x2) (some []))) s) s) s) s) s)
  (f21xJ3 C Q s0 t0 t1 t2 t7 x8 s)) s) s) s) s) s) s

def f21xS (C : CallT) (Q : Post) (t0 t1 t2 : Value) (s0 : St) : Prop :=
  bindO (some (.slice none 0 0)) (fun x6 s =>
  bindO (some t0) (fun x10 s =>
  bindO (some t1) (fun x11 s =>
  bindO (slcV P 47 x10 (some x11) none none s) (fun x12 s =>
  bindO (some t2) (fun x13 s =>
  bindO (lenR P 47 x13 s) (fun x14 s =>
  bindO (some x14) (fun x7 s =>
  bindO (some x7) (fun x15 s =>
  bindO (binV P .eql 3 x15 (.int .i64 0)) (fun x16 s =>
  condW x16
  (bindO (some t0) (fun x17 s =>
  bindO (some x17) (fun x6x1 s =>
  kEnd Q s0 (retV (consO (some x6x1) (some []))) s) s) s)
  (f21xJ4 C Q s0 t0 t1 t2 x7 s)) s) s) s) s) s) s) s) s) s0

theorem f21xeq (C : CallT) (Q : Post) (t0 t1 t2 : Value) (s0 : St) : bodyW P C wips 21 [t0, t1, t2] Q s0 = f21xS C Q t0 t1 t2 s0 := by kernel_rfl

/-! ### slices.Delete[[]erewhile/keytree.Held,erewhile/keytree.Held] -/

def f22xJ1 (C : CallT) (Q : Post) (s0 : St) (t0 t1 t2 : Value) (s : St) : Prop :=
  bindO (some t0) (fun x18 s =>
  bindO (lenR P 47 x18 s) (fun x19 s =>
  bindO (some x19) (fun x7 s =>
  optW (some t0) (fun x20 =>
  optW (some t1) (fun x21 =>
  optW (slcV P 47 x20 none (some x21) none s) (fun x22 =>
  optW (some t0) (fun x23 =>
  optW (some t2) (fun x24 =>
  optW (slcV P 47 x23 (some x24) none none s) (fun x25 =>
  apdW P (tSlice P 47) 47 x22 x25 (fun x26 s =>
  optW (some x26) (fun x0 =>
  bindO (some x0) (fun x27 s =>
  bindO (some x0) (fun x28 s =>
  bindO (lenR P 47 x28 s) (fun x29 s =>
  bindO (some x7) (fun x30 s =>
  bindO (slcV P 47 x27 (some x29) (some x30) none s) (fun x31 s =>
  clearW P 47 x31 (fun _ s =>
  bindO (some x0) (fun x32 s =>
  bindO (some x32) (fun x6x2 s =>
  kEnd Q s0 (retV (consO (some x6x2) (some []))) s) s) s) s) s) s) s) s) s)) s))))))) s) s) s

def f22xS (C : CallT) (Q : Post) (t0 t1 t2 : Value) (s0 : St) : Prop :=
  bindO (some (.slice none 0 0)) (fun x6 s =>
  bindO (some t0) (fun x8 s =>
  bindO (some t1) (fun x9 s =>
  bindO (some t2) (fun x10 s =>
  bindO (some t0) (fun x11 s =>
  bindO (lenR P 47 x11 s) (fun x12 s =>
  bindO (slcV P 47 x8 (some x9) (some x10) (some x12) s) (fun x13 s =>
  bindO (some t1) (fun x14 s =>
  bindO (some t2) (fun x15 s =>
  bindO (binV P .eql 3 x14 x15) (fun x16 s =>
  condW x16
  (bindO (some t0) (fun x17 s =>
  bindO (some x17) (fun x6x1 s =>
  kEnd Q s0 (retV (consO (some x6x1) (some []))) s) s) s)
  (f22xJ1 C Q s0 t0 t1 t2 s)) s) s) s) s) s) s) s) s) s) s0

theorem f22xeq (C : CallT) (Q : Post) (t0 t1 t2 : Value) (s0 : St) : bodyW P C wips 22 [t0, t1, t2] Q s0 = f22xS C Q t0 t1 t2 s0 := by kernel_rfl

/-! ### erewhile/check.set -/

noncomputable def f23xl0 : Code := (cL (cR (cL (cR (cR (cF P 23))))))
noncomputable def f23xb0 : Code := (cL (cL (cR (cL (cR (cR (cF P 23)))))))

def f23xJ1 (C : CallT) (K : CPost) (I : Value → Value → Value → Value → St → Prop) (t3 t7 t8 t9 : Value) (s : St) : Prop :=
  bindO (binV P .add 3 t9 (.int .i64 1)) (fun x15 s =>
  bindO (some x15) (fun x9x1 s =>
  I t3 t7 t8 x9x1 s) s) s

def f23xJ2 (C : CallT) (K : CPost) (I : Value → Value → Value → Value → St → Prop) (t3 t7 t8 t9 : Value) (s : St) : Prop :=
  bindO (idxAddr (tElem P 22) t7 t9) (fun x11 s =>
  bindO (loadV (tAgg P 28) x11 s) (fun x12 s =>
  bindO (some x12) (fun x5 s =>
  bindO (some t3) (fun x13 s =>
  bindO (some x5) (fun x14 s =>
  mapPutW (tMap P 59) x13 x14 (.bool true) (fun _ s =>
  f23xJ1 C K I t3 t7 t8 t9 s) s) s) s) s) s) s

def f23xB0 (C : CallT) (K : CPost) (I : Value → Value → Value → Value → St → Prop) (t3 t7 t8 t9 : Value) (s : St) : Prop :=
  bindO (binV P .lss 3 t9 t8) (fun x10 s =>
  condW x10
  (f23xJ2 C K I t3 t7 t8 t9 s)
  (K (.exit 0) (ofL (undef :: undef :: undef :: t3 :: undef :: undef :: undef :: t7 :: t8 :: t9 :: undef :: undef :: undef :: undef :: undef :: undef :: undef :: [])) s)) s

theorem f23xloop0 {C : CallT} {K : CPost} {t3 t7 t8 t9 : Value} {s : St} (h : ∀ I : Value → Value → Value → Value → St → Prop, (∀ t3 t7 t8 t9 s, f23xB0 C K I t3 t7 t8 t9 s → I t3 t7 t8 t9 s) → I t3 t7 t8 t9 s) :
    evC P C h23 f23xl0 0 K (ofL (undef :: undef :: undef :: t3 :: undef :: undef :: undef :: t7 :: t8 :: t9 :: undef :: undef :: undef :: undef :: undef :: undef :: undef :: [])) s := by
  have e : evC P C h23 f23xl0 0 K (ofL (undef :: undef :: undef :: t3 :: undef :: undef :: undef :: t7 :: t8 :: t9 :: undef :: undef :: undef :: undef :: undef :: undef :: undef :: [])) s = LoopC P C h23 f23xb0 0 K (undef :: undef :: undef :: t3 :: undef :: undef :: undef :: t7 :: t8 :: t9 :: undef :: undef :: undef :: undef :: undef :: undef :: undef :: []) s := by kernel_rfl
  rw [e]
  intro J hJ
  refine h (fun t3 t7 t8 t9 s => J (undef :: undef :: undef :: t3 :: undef :: undef :: undef :: t7 :: t8 :: t9 :: undef :: undef :: undef :: undef :: undef :: undef :: undef :: []) s) (fun t3 t7 t8 t9 s hb => hJ _ s ?_)
  have e2 : evC P C h23 f23xb0 0 (kLoop h23 0 J K) (ofL (undef :: undef :: undef :: t3 :: undef :: undef :: undef :: t7 :: t8 :: t9 :: undef :: undef :: undef :: undef :: undef :: undef :: undef :: [])) s = f23xB0 C K (fun t3 t7 t8 t9 s => J (undef :: undef :: undef :: t3 :: undef :: undef :: undef :: t7 :: t8 :: t9 :: undef :: undef :: undef :: undef :: undef :: undef :: undef :: []) s) t3 t7 t8 t9 s := by kernel_rfl
  rw [e2]
  exact hb

def f23xJ3 (C : CallT) (Q : Post) (s0 : St) (t3 : Value) (s : St) : Prop :=
  bindO (some t3) (fun x16 s =>
  bindO (some x16) (fun x2x1 s =>
  kEnd Q s0 (retV (consO (some x2x1) (some []))) s) s) s

def f23xE0x0 (C : CallT) (Q : Post) (s0 : St) (t3 : Value) (s : St) : Prop :=
  f23xJ3 C Q s0 t3 s

noncomputable def f23xK4 (C : CallT) (Q : Post) (s0 : St) : CPost := kSeq (evC P C h23 (cR (cR (cR (cF P 23)))) 0 (kBody P (cN P 23) Q s0)) (kBody P (cN P 23) Q s0)

noncomputable def f23xK5 (C : CallT) (Q : Post) (s0 : St) : CPost := kBlock 0 (f23xK4 C Q s0)

theorem f23xE0x0xeq (C : CallT) (Q : Post) (s0 : St) (t3 t7 t8 t9 : Value) (s : St) : (f23xK5 C Q s0) (.exit 0) (ofL (undef :: undef :: undef :: t3 :: undef :: undef :: undef :: t7 :: t8 :: t9 :: undef :: undef :: undef :: undef :: undef :: undef :: undef :: [])) s = f23xE0x0 C Q s0 t3 s := by kernel_rfl

def f23xS (C : CallT) (Q : Post) (t0 : Value) (s0 : St) : Prop :=
  bindO (some (.map none)) (fun x2 s =>
  newW (mapN (tIsMap P 59) none) (fun x6 s =>
  bindO (some x6) (fun x3 s =>
  bindO (some t0) (fun x7 s =>
  bindO (lenR P 22 x7 s) (fun x8 s =>
  bindO (some (.int .i64 0)) (fun x9 s =>
  evC P C h23 f23xl0 0 (f23xK5 C Q s0) (ofL (undef :: undef :: undef :: x3 :: undef :: undef :: undef :: x7 :: x8 :: x9 :: undef :: undef :: undef :: undef :: undef :: undef :: undef :: [])) s) s) s) s) s) s) s0

theorem f23xeq (C : CallT) (Q : Post) (t0 : Value) (s0 : St) : bodyW P C wips 23 [t0] Q s0 = f23xS C Q t0 s0 := by kernel_rfl

/-! ### (*erewhile/keytree.Tree).Has -/

def f24xS (C : CallT) (Q : Post) (t0 t1 : Value) (s0 : St) : Prop :=
  bindO (some (.bool false)) (fun x4 s =>
  bindO (some t0) (fun x8 s =>
  bindO (some t1) (fun x9 s =>
  callF P C (fv 15) [x8, x9] (fun x10 s =>
  bindO (some x10) (fun x7 s =>
  bindO (extV x7 0) (fun x11 s =>
  bindO (extV x7 1) (fun x12 s =>
  bindO (some x11) (fun x5 s =>
  bindO (some x12) (fun x6 s =>
  bindO (some x6) (fun x13 s =>
  bindO (some x13) (fun x4x1 s =>
  kEnd Q s0 (retV (consO (some x4x1) (some []))) s) s) s) s) s) s) s) s) s) s) s) s0

theorem f24xeq (C : CallT) (Q : Post) (t0 t1 : Value) (s0 : St) : bodyW P C wips 24 [t0, t1] Q s0 = f24xS C Q t0 t1 s0 := by kernel_rfl

/-! ### erewhile/erewhileref57.has -/

noncomputable def f25xl0 : Code := (cL (cR (cL (cR (cF P 25)))))
noncomputable def f25xb0 : Code := (cL (cL (cR (cL (cR (cF P 25))))))

def f25xJ1 (C : CallT) (K : CPost) (I : Value → Value → Value → Value → St → Prop) (t0 t1 t4 t5 : Value) (s : St) : Prop :=
  bindO (some t5) (fun x10 s =>
  bindO (binV P .add 3 x10 (.int .i64 1)) (fun x11 s =>
  bindO (some x11) (fun x5x1 s =>
  I t0 t1 t4 x5x1 s) s) s) s

def f25xJ2 (C : CallT) (K : CPost) (I : Value → Value → Value → Value → St → Prop) (t0 t1 t4 t5 : Value) (s : St) : Prop :=
  bindO (some t0) (fun x12 s =>
  bindO (some t5) (fun x13 s =>
  bindO (idxAddr (tElem P 22) x12 x13) (fun x14 s =>
  bindO (loadV (tAgg P 28) x14 s) (fun x15 s =>
  bindO (some t1) (fun x16 s =>
  bindO (binV P .eql 28 x15 x16) (fun x17 s =>
  condW x17
  (bindO (some (.bool true)) (fun x4x1 s =>
  K .ret (ofL (t0 :: t1 :: undef :: undef :: x4x1 :: t5 :: undef :: undef :: undef :: undef :: undef :: undef :: undef :: undef :: undef :: undef :: undef :: undef :: [])) s) s)
  (f25xJ1 C K I t0 t1 t4 t5 s)) s) s) s) s) s) s

def f25xB0 (C : CallT) (K : CPost) (I : Value → Value → Value → Value → St → Prop) (t0 t1 t4 t5 : Value) (s : St) : Prop :=
  bindO (some t5) (fun x6 s =>
  bindO (some t0) (fun x7 s =>
  bindO (lenR P 22 x7 s) (fun x8 s =>
  bindO (binV P .lss 3 x6 x8) (fun x9 s =>
  condW x9
  (f25xJ2 C K I t0 t1 t4 t5 s)
  (K (.exit 0) (ofL (t0 :: t1 :: undef :: undef :: t4 :: t5 :: undef :: undef :: undef :: undef :: undef :: undef :: undef :: undef :: undef :: undef :: undef :: undef :: [])) s)) s) s) s) s

theorem f25xloop0 {C : CallT} {K : CPost} {t0 t1 t4 t5 : Value} {s : St} (h : ∀ I : Value → Value → Value → Value → St → Prop, (∀ t0 t1 t4 t5 s, f25xB0 C K I t0 t1 t4 t5 s → I t0 t1 t4 t5 s) → I t0 t1 t4 t5 s) :
    evC P C h25 f25xl0 0 K (ofL (t0 :: t1 :: undef :: undef :: t4 :: t5 :: undef :: undef :: undef :: undef :: undef :: undef :: undef :: undef :: undef :: undef :: undef :: undef :: [])) s := by
  have e : evC P C h25 f25xl0 0 K (ofL (t0 :: t1 :: undef :: undef :: t4 :: t5 :: undef :: undef :: undef :: undef :: undef :: undef :: undef :: undef :: undef :: undef :: undef :: undef :: [])) s = LoopC P C h25 f25xb0 0 K (t0 :: t1 :: undef :: undef :: t4 :: t5 :: undef :: undef :: undef :: undef :: undef :: undef :: undef :: undef :: undef :: undef :: undef :: undef :: []) s := by kernel_rfl
  rw [e]
  intro J hJ
  refine h (fun t0 t1 t4 t5 s => J (t0 :: t1 :: undef :: undef :: t4 :: t5 :: undef :: undef :: undef :: undef :: undef :: undef :: undef :: undef :: undef :: undef :: undef :: undef :: []) s) (fun t0 t1 t4 t5 s hb => hJ _ s ?_)
  have e2 : evC P C h25 f25xb0 0 (kLoop h25 0 J K) (ofL (t0 :: t1 :: undef :: undef :: t4 :: t5 :: undef :: undef :: undef :: undef :: undef :: undef :: undef :: undef :: undef :: undef :: undef :: undef :: [])) s = f25xB0 C K (fun t0 t1 t4 t5 s => J (t0 :: t1 :: undef :: undef :: t4 :: t5 :: undef :: undef :: undef :: undef :: undef :: undef :: undef :: undef :: undef :: undef :: undef :: undef :: []) s) t0 t1 t4 t5 s := by kernel_rfl
  rw [e2]
  exact hb

def f25xJ3 (C : CallT) (Q : Post) (s0 : St) (s : St) : Prop :=
  bindO (some (.bool false)) (fun x4x2 s =>
  kEnd Q s0 (retV (consO (some x4x2) (some []))) s) s

def f25xE0x0 (C : CallT) (Q : Post) (s0 : St) (s : St) : Prop :=
  f25xJ3 C Q s0  s

noncomputable def f25xK4 (C : CallT) (Q : Post) (s0 : St) : CPost := kSeq (evC P C h25 (cR (cR (cF P 25))) 0 (kBody P (cN P 25) Q s0)) (kBody P (cN P 25) Q s0)

noncomputable def f25xK5 (C : CallT) (Q : Post) (s0 : St) : CPost := kBlock 0 (f25xK4 C Q s0)

theorem f25xE0x0xeq (C : CallT) (Q : Post) (s0 : St) (t0 t1 t4 t5 : Value) (s : St) : (f25xK5 C Q s0) (.exit 0) (ofL (t0 :: t1 :: undef :: undef :: t4 :: t5 :: undef :: undef :: undef :: undef :: undef :: undef :: undef :: undef :: undef :: undef :: undef :: undef :: [])) s = f25xE0x0 C Q s0  s := by kernel_rfl

def f25xE0xret (C : CallT) (Q : Post) (s0 : St) (t4 : Value) (s : St) : Prop :=
  kEnd Q s0 (retV (consO (some t4) (some []))) s

theorem f25xE0xret_eq (C : CallT) (Q : Post) (s0 : St) (t0 t1 t4 t5 : Value) (s : St) : (f25xK5 C Q s0) .ret (ofL (t0 :: t1 :: undef :: undef :: t4 :: t5 :: undef :: undef :: undef :: undef :: undef :: undef :: undef :: undef :: undef :: undef :: undef :: undef :: [])) s = f25xE0xret C Q s0 t4 s := by kernel_rfl

def f25xS (C : CallT) (Q : Post) (t0 t1 : Value) (s0 : St) : Prop :=
  bindO (some (.bool false)) (fun x4 s =>
  bindO (some (.int .i64 0)) (fun x5 s =>
  evC P C h25 f25xl0 0 (f25xK5 C Q s0) (ofL (t0 :: t1 :: undef :: undef :: x4 :: x5 :: undef :: undef :: undef :: undef :: undef :: undef :: undef :: undef :: undef :: undef :: undef :: undef :: [])) s) s) s0

theorem f25xeq (C : CallT) (Q : Post) (t0 t1 : Value) (s0 : St) : bodyW P C wips 25 [t0, t1] Q s0 = f25xS C Q t0 t1 s0 := by kernel_rfl

/-! ### erewhile/keytree.many -/

def f26xS (C : CallT) (Q : Post) (t0 : Value) (s0 : St) : Prop :=
  bindO (some (.int .u64 0)) (fun x2 s =>
  bindO (some t0) (fun x3 s =>
  bindO (binV P .sub 3 (.int .i64 17) x3) (fun x4 s =>
  bindO (convV (P.underlying 3).isSome (tInt P 70) x4) (fun x5 s =>
  bindO (binV P .shl 28 (.int .u64 1) x5) (fun x6 s =>
  bindO (some x6) (fun x2x1 s =>
  kEnd Q s0 (retV (consO (some x2x1) (some []))) s) s) s) s) s) s) s0

theorem f26xeq (C : CallT) (Q : Post) (t0 : Value) (s0 : St) : bodyW P C wips 26 [t0] Q s0 = f26xS C Q t0 s0 := by kernel_rfl

/-! ### slices.BinarySearchFunc[[]erewhile/keytree.Held,erewhile/keytree.Held,uint64] -/

noncomputable def f27xl0 : Code := (cL (cL (cR (cR (cR (cF P 27))))))
noncomputable def f27xb0 : Code := (cL (cL (cL (cR (cR (cR (cF P 27)))))))

def f27xJ1 (C : CallT) (K : CPost) (I : Value → Value → Value → Value → Value → Value → St → Prop) (t0 t1 t2 t8 t9 t10 : Value) (s : St) : Prop :=
  bindO (some t9) (fun x18 s =>
  bindO (some t10) (fun x19 s =>
  bindO (binV P .add 3 x18 x19) (fun x20 s =>
  bindO (convV (P.underlying 3).isSome (tInt P 70) x20) (fun x21 s =>
  bindO (binV P .shr 70 x21 (.int .u64 1)) (fun x22 s =>
  bindO (convV (P.underlying 70).isSome (tInt P 3) x22) (fun x23 s =>
  bindO (some x23) (fun x11 s =>
  bindO (some t2) (fun x24 s =>
  bindO (some t0) (fun x25 s =>
  bindO (some x11) (fun x26 s =>
  bindO (idxAddr (tElem P 47) x25 x26) (fun x27 s =>
  bindO (loadV (tAgg P 46) x27 s) (fun x28 s =>
  bindO (some t1) (fun x29 s =>
  callF P C x24 [x28, x29] (fun x30 s =>
  bindO (binV P .lss 3 x30 (.int .i64 0)) (fun x31 s =>
  condW x31
  (bindO (some x11) (fun x32 s =>
  bindO (binV P .add 3 x32 (.int .i64 1)) (fun x33 s =>
  bindO (some x33) (fun x9x1 s =>
  I t0 t1 t2 t8 x9x1 t10 s) s) s) s)
  (bindO (some x11) (fun x34 s =>
  bindO (some x34) (fun x10x1 s =>
  I t0 t1 t2 t8 t9 x10x1 s) s) s)) s) s) s) s) s) s) s) s) s) s) s) s) s) s) s

def f27xB0 (C : CallT) (K : CPost) (I : Value → Value → Value → Value → Value → Value → St → Prop) (t0 t1 t2 t8 t9 t10 : Value) (s : St) : Prop :=
  bindO (some t9) (fun x15 s =>
  bindO (some t10) (fun x16 s =>
  bindO (binV P .lss 3 x15 x16) (fun x17 s =>
  condW x17
  (f27xJ1 C K I t0 t1 t2 t8 t9 t10 s)
  (K (.exit 0) (ofL (t0 :: t1 :: t2 :: undef :: undef :: undef :: undef :: undef :: t8 :: t9 :: t10 :: undef :: undef :: undef :: undef :: undef :: undef :: undef :: undef :: undef :: undef :: undef :: undef :: undef :: undef :: undef :: undef :: undef :: undef :: undef :: undef :: undef :: undef :: undef :: undef :: undef :: undef :: undef :: undef :: undef :: undef :: undef :: undef :: undef :: undef :: undef :: undef :: undef :: undef :: [])) s)) s) s) s

theorem f27xloop0 {C : CallT} {K : CPost} {t0 t1 t2 t8 t9 t10 : Value} {s : St} (h : ∀ I : Value → Value → Value → Value → Value → Value → St → Prop, (∀ t0 t1 t2 t8 t9 t10 s, f27xB0 C K I t0 t1 t2 t8 t9 t10 s → I t0 t1 t2 t8 t9 t10 s) → I t0 t1 t2 t8 t9 t10 s) :
    evC P C h27 f27xl0 0 K (ofL (t0 :: t1 :: t2 :: undef :: undef :: undef :: undef :: undef :: t8 :: t9 :: t10 :: undef :: undef :: undef :: undef :: undef :: undef :: undef :: undef :: undef :: undef :: undef :: undef :: undef :: undef :: undef :: undef :: undef :: undef :: undef :: undef :: undef :: undef :: undef :: undef :: undef :: undef :: undef :: undef :: undef :: undef :: undef :: undef :: undef :: undef :: undef :: undef :: undef :: undef :: [])) s := by
  have e : evC P C h27 f27xl0 0 K (ofL (t0 :: t1 :: t2 :: undef :: undef :: undef :: undef :: undef :: t8 :: t9 :: t10 :: undef :: undef :: undef :: undef :: undef :: undef :: undef :: undef :: undef :: undef :: undef :: undef :: undef :: undef :: undef :: undef :: undef :: undef :: undef :: undef :: undef :: undef :: undef :: undef :: undef :: undef :: undef :: undef :: undef :: undef :: undef :: undef :: undef :: undef :: undef :: undef :: undef :: undef :: [])) s = LoopC P C h27 f27xb0 0 K (t0 :: t1 :: t2 :: undef :: undef :: undef :: undef :: undef :: t8 :: t9 :: t10 :: undef :: undef :: undef :: undef :: undef :: undef :: undef :: undef :: undef :: undef :: undef :: undef :: undef :: undef :: undef :: undef :: undef :: undef :: undef :: undef :: undef :: undef :: undef :: undef :: undef :: undef :: undef :: undef :: undef :: undef :: undef :: undef :: undef :: undef :: undef :: undef :: undef :: undef :: []) s := by kernel_rfl
  rw [e]
  intro J hJ
  refine h (fun t0 t1 t2 t8 t9 t10 s => J (t0 :: t1 :: t2 :: undef :: undef :: undef :: undef :: undef :: t8 :: t9 :: t10 :: undef :: undef :: undef :: undef :: undef :: undef :: undef :: undef :: undef :: undef :: undef :: undef :: undef :: undef :: undef :: undef :: undef :: undef :: undef :: undef :: undef :: undef :: undef :: undef :: undef :: undef :: undef :: undef :: undef :: undef :: undef :: undef :: undef :: undef :: undef :: undef :: undef :: undef :: []) s) (fun t0 t1 t2 t8 t9 t10 s hb => hJ _ s ?_)
  have e2 : evC P C h27 f27xb0 0 (kLoop h27 0 J K) (ofL (t0 :: t1 :: t2 :: undef :: undef :: undef :: undef :: undef :: t8 :: t9 :: t10 :: undef :: undef :: undef :: undef :: undef :: undef :: undef :: undef :: undef :: undef :: undef :: undef :: undef :: undef :: undef :: undef :: undef :: undef :: undef :: undef :: undef :: undef :: undef :: undef :: undef :: undef :: undef :: undef :: undef :: undef :: undef :: undef :: undef :: undef :: undef :: undef :: undef :: undef :: [])) s = f27xB0 C K (fun t0 t1 t2 t8 t9 t10 s => J (t0 :: t1 :: t2 :: undef :: undef :: undef :: undef :: undef :: t8 :: t9 :: t10 :: undef :: undef :: undef :: undef :: undef :: undef :: undef :: undef :: undef :: undef :: undef :: undef :: undef :: undef :: undef :: undef :: undef :: undef :: undef :: undef :: undef :: undef :: undef :: undef :: undef :: undef :: undef :: undef :: undef :: undef :: undef :: undef :: undef :: undef :: undef :: undef :: undef :: undef :: []) s) t0 t1 t2 t8 t9 t10 s := by kernel_rfl
  rw [e2]
  exact hb

def f27xJ2 (C : CallT) (Q : Post) (s0 : St) (t0 t1 t2 t8 t9 : Value) (s : St) : Prop :=
  bindO (some t9) (fun x35 s =>
  bindO (some t9) (fun x36 s =>
  bindO (some t8) (fun x37 s =>
  bindO (binV P .lss 3 x36 x37) (fun x38 s =>
  bindO (some x38) (fun x39 s =>
  gW (boolIs true x39) (fun k s => bindO (some t2) k s) (fun x40 s =>
  gW (boolIs true x39) (fun k s => bindO (some t0) k s) (fun x41 s =>
  gW (boolIs true x39) (fun k s => bindO (some t9) k s) (fun x42 s =>
  gW (boolIs true x39) (fun k s => bindO (idxAddr (tElem P 47) x41 x42) k s) (fun x43 s =>
  gW (boolIs true x39) (fun k s => bindO (loadV (tAgg P 46) x43 s) k s) (fun x44 s =>
  gW (boolIs true x39) (fun k s => bindO (some t1) k s) (fun x45 s =>
  gW (boolIs true x39) (fun k s => callF P C x40 [x44, x45] k s) (fun x46 s =>
  gW (boolIs true x39) (fun k s => bindO (binV P .eql 3 x46 (.int .i64 0)) k s) (fun x47 s =>
  bindO (pickV x39 x47 (.bool false)) (fun x48 s =>
  bindO (some x35) (fun x6x1 s =>
  bindO (some x48) (fun x7x1 s =>
  kEnd Q s0 (retV (consO (some x6x1) (consO (some x7x1) (some [])))) s) s) s) s) s) s) s) s) s) s) s) s) s) s) s) s) s

def f27xE0x0 (C : CallT) (Q : Post) (s0 : St) (t0 t1 t2 t8 t9 : Value) (s : St) : Prop :=
  f27xJ2 C Q s0 t0 t1 t2 t8 t9 s

noncomputable def f27xK3 (C : CallT) (Q : Post) (s0 : St) : CPost := kSeq (evC P C h27 (cR (cR (cR (cR (cF P 27))))) 0 (kBody P (cN P 27) Q s0)) (kBody P (cN P 27) Q s0)

noncomputable def f27xK4 (C : CallT) (Q : Post) (s0 : St) : CPost := kBlock 0 (f27xK3 C Q s0)

theorem f27xE0x0xeq (C : CallT) (Q : Post) (s0 : St) (t0 t1 t2 t8 t9 t10 : Value) (s : St) : (f27xK4 C Q s0) (.exit 0) (ofL (t0 :: t1 :: t2 :: undef :: undef :: undef :: undef :: undef :: t8 :: t9 :: t10 :: undef :: undef :: undef :: undef :: undef :: undef :: undef :: undef :: undef :: undef :: undef :: undef :: undef :: undef :: undef :: undef :: undef :: undef :: undef :: undef :: undef :: undef :: undef :: undef :: undef :: undef :: undef :: undef :: undef :: undef :: undef :: undef :: undef :: undef :: undef :: undef :: undef :: undef :: [])) s = f27xE0x0 C Q s0 t0 t1 t2 t8 t9 s := by kernel_rfl

def f27xS (C : CallT) (Q : Post) (t0 t1 t2 : Value) (s0 : St) : Prop :=
  bindO (some (.int .i64 0)) (fun x6 s =>
  bindO (some (.bool false)) (fun x7 s =>
  bindO (some t0) (fun x12 s =>
  bindO (lenR P 47 x12 s) (fun x13 s =>
  bindO (some x13) (fun x8 s =>
  bindO (some x8) (fun x14 s =>
  bindO (some (.int .i64 0)) (fun x9 s =>
  bindO (some x14) (fun x10 s =>
  evC P C h27 f27xl0 0 (f27xK4 C Q s0) (ofL (t0 :: t1 :: t2 :: undef :: undef :: undef :: undef :: undef :: x8 :: x9 :: x10 :: undef :: undef :: undef :: undef :: undef :: undef :: undef :: undef :: undef :: undef :: undef :: undef :: undef :: undef :: undef :: undef :: undef :: undef :: undef :: undef :: undef :: undef :: undef :: undef :: undef :: undef :: undef :: undef :: undef :: undef :: undef :: undef :: undef :: undef :: undef :: undef :: undef :: undef :: [])) s) s) s) s) s) s) s) s) s0

theorem f27xeq (C : CallT) (Q : Post) (t0 t1 t2 : Value) (s0 : St) : bodyW P C wips 27 [t0, t1, t2] Q s0 = f27xS C Q t0 t1 t2 s0 := by kernel_rfl

/-! ### (*erewhile/keytree.Tree).find$1 -/

def f28xS (C : CallT) (Q : Post) (t0 t1 : Value) (s0 : St) : Prop :=
  newW (boxN t0) (fun x2 s =>
  bindO (some (.int .i64 0)) (fun x4 s =>
  bindO (ptrAdd (tField P 46 1) x2) (fun x5 s =>
  bindO (loadV (tAgg P 28) x5 s) (fun x6 s =>
  bindO (some t1) (fun x7 s =>
  callF P C (fv 20) [x6, x7] (fun x8 s =>
  bindO (some x8) (fun x4x1 s =>
  kEnd Q s0 (retV (consO (some x4x1) (some []))) s) s) s) s) s) s) s) s0

theorem f28xeq (C : CallT) (Q : Post) (t0 t1 : Value) (s0 : St) : bodyW P C wips 28 [t0, t1] Q s0 = f28xS C Q t0 t1 s0 := by kernel_rfl

/-! ### (*erewhile/keytree.Tree).down$1 -/

def f29xS (C : CallT) (Q : Post) (t0 t1 : Value) (s0 : St) : Prop :=
  newW (boxN t0) (fun x2 s =>
  newW (zeroN (tZero P 46)) (fun x3 s =>
  newW (zeroN (tZero P 46)) (fun x4 s =>
  optW (loadV (tAgg P 24) t1 s) (fun x8 =>
  optW (nilV x8) (fun x9 =>
  optW (ptrAdd (tField P 49 0) x9) (fun x10 =>
  optW (loadV (tAgg P 44) x10 s) (fun x11 =>
  optW (ptrAdd (tField P 46 2) x2) (fun x12 =>
  optW (loadV (tAgg P 27) x12 s) (fun x13 =>
  callI P C x11 "Split" [x13] (fun x14 s =>
  optW (some x14) (fun x7 =>
  optW (extV x7 0) (fun x15 =>
  optW (extV x7 1) (fun x16 =>
  newW (zeroN (tZero P 27)) (fun x5 s =>
  newW (zeroN (tZero P 27)) (fun x6 s =>
  storeW (tSize P 27) x5 x15 (fun _ s =>
  storeW (tSize P 27) x6 x16 (fun _ s =>
  optW (ptrAdd (tField P 46 0) x2) (fun x17 =>
  optW (loadV (tAgg P 3) x17 s) (fun x18 =>
  optW (binV P .add 3 x18 (.int .i64 1)) (fun x19 =>
  optW (ptrAdd (tField P 46 1) x2) (fun x20 =>
  optW (loadV (tAgg P 28) x20 s) (fun x21 =>
  optW (loadV (tAgg P 27) x5 s) (fun x22 =>
  optW (buildV P 46 #[(0, x19), (1, x21), (2, x22)]) (fun x23 =>
  optW (ptrAdd (tField P 46 0) x2) (fun x24 =>
  optW (loadV (tAgg P 3) x24 s) (fun x25 =>
  optW (binV P .add 3 x25 (.int .i64 1)) (fun x26 =>
  optW (ptrAdd (tField P 46 1) x2) (fun x27 =>
  optW (loadV (tAgg P 28) x27 s) (fun x28 =>
  optW (ptrAdd (tField P 46 0) x2) (fun x29 =>
  optW (loadV (tAgg P 3) x29 s) (fun x30 =>
  optW (binV P .add 3 x30 (.int .i64 1)) (fun x31 =>
  optW (loadV (tAgg P 27) x6 s) (fun x34 =>
  callF P C (fv 26) [x31] (fun x32 s =>
  chkW (some true) ((loadV (tAgg P 3) x17 s) = some x18) (chkW (some true) ((loadV (tAgg P 28) x20 s) = some x21) (chkW (some true) ((loadV (tAgg P 27) x5 s) = some x22) (chkW (some true) ((loadV (tAgg P 3) x24 s) = some x25) (chkW (some true) ((loadV (tAgg P 28) x27 s) = some x28) (chkW (some true) ((loadV (tAgg P 27) x6 s) = some x34) (optW (binV P .add 28 x28 x32) (fun x33 =>
  optW (buildV P 46 #[(0, x26), (1, x33), (2, x34)]) (fun x35 =>
  storeW (tSize P 46) x3 x23 (fun _ s =>
  chkW (some true) ((loadV (tAgg P 3) x24 s) = some x25) (chkW (some true) ((loadV (tAgg P 28) x27 s) = some x28) (chkW (some true) ((loadV (tAgg P 27) x6 s) = some x34) (storeW (tSize P 46) x4 x35 (fun _ s =>
  kEnd Q s0 (retV (consO (loadV (tAgg P 46) x3 s) (consO (loadV (tAgg P 46) x4 s) (some [])))) s) s)))) s))))))))) s))))))))))))))))) s) s) s) s)))) s))))))) s) s) s0

theorem f29xeq (C : CallT) (Q : Post) (t0 t1 : Value) (s0 : St) : bodyW P C wips 29 [t0, t1] Q s0 = f29xS C Q t0 t1 s0 := by kernel_rfl

/-! ### cmp.isNaN[uint64] -/

def f32xS (C : CallT) (Q : Post) (t0 : Value) (s0 : St) : Prop :=
  bindO (some (.bool false)) (fun x2 s =>
  bindO (some t0) (fun x3 s =>
  bindO (some t0) (fun x4 s =>
  bindO (binV P .neq 28 x3 x4) (fun x5 s =>
  bindO (some x5) (fun x2x1 s =>
  kEnd Q s0 (retV (consO (some x2x1) (some []))) s) s) s) s) s) s0

theorem f32xeq (C : CallT) (Q : Post) (t0 : Value) (s0 : St) : bodyW P C wips 32 [t0] Q s0 = f32xS C Q t0 s0 := by kernel_rfl

/-! ### (erewhile/erewhilelaw05.Lit).Split -/

def f70xS (C : CallT) (Q : Post) (t0 t1 : Value) (s0 : St) : Prop :=
  newW (boxN t0) (fun x2 s =>
  newW (boxN t1) (fun x3 s =>
  newW (zeroN (tZero P 27)) (fun x4 s =>
  newW (zeroN (tZero P 27)) (fun x5 s =>
  bindO (loadV (tAgg P 27) x3 s) (fun x6 s =>
  callF P C (fv 71) [x6] (fun x7 s =>
  bindO (extV x7 0) (fun x8 s =>
  bindO (extV x7 1) (fun x9 s =>
  storeW (tSize P 27) x4 x8 (fun _ s =>
  storeW (tSize P 27) x5 x9 (fun _ s =>
  kEnd Q s0 (retV (consO (loadV (tAgg P 27) x4 s) (consO (loadV (tAgg P 27) x5 s) (some [])))) s) s) s) s) s) s) s) s) s) s) s0

theorem f70xeq (C : CallT) (Q : Post) (t0 t1 : Value) (s0 : St) : bodyW P C wips 70 [t0, t1] Q s0 = f70xS C Q t0 t1 s0 := by kernel_rfl

/-! ### erewhile/erewhileref05.LitSplit -/

def f71xS (C : CallT) (Q : Post) (t0 : Value) (s0 : St) : Prop :=
  newW (boxN t0) (fun x1 s =>
  newW (zeroN (tZero P 27)) (fun x2 s =>
  newW (zeroN (tZero P 27)) (fun x3 s =>
  bindO (loadV (tAgg P 27) x1 s) (fun x6 s =>
  callF P C (fv 72) [x6, (.int .u64 1099511627776)] (fun x7 s =>
  newW (zeroN (tZero P 29)) (fun x4 s =>
  storeW (tSize P 29) x4 x7 (fun _ s =>
  bindO (loadV (tAgg P 27) x1 s) (fun x8 s =>
  callF P C (fv 72) [x8, (.int .u64 2199023255552)] (fun x9 s =>
  newW (zeroN (tZero P 29)) (fun x5 s =>
  storeW (tSize P 29) x5 x9 (fun _ s =>
  optW (loadV (tAgg P 29) x4 s) (fun x10 =>
  optW (loadV (tAgg P 29) x5 s) (fun x11 =>
  storeW (tSize P 27) x2 x10 (fun _ s =>
  chkW (some true) ((loadV (tAgg P 29) x5 s) = some x11) (storeW (tSize P 27) x3 x11 (fun _ s =>
  kEnd Q s0 (retV (consO (loadV (tAgg P 27) x2 s) (consO (loadV (tAgg P 27) x3 s) (some [])))) s) s)) s))) s) s) s) s) s) s) s) s) s) s) s0

theorem f71xeq (C : CallT) (Q : Post) (t0 : Value) (s0 : St) : bodyW P C wips 71 [t0] Q s0 = f71xS C Q t0 s0 := by kernel_rfl

/-! ### erewhile/erewhileref05.LitPad -/

noncomputable def f72xl0 : Code := (cL (cR (cL (cR (cR (cR (cF P 72)))))))
noncomputable def f72xb0 : Code := (cL (cL (cR (cL (cR (cR (cR (cF P 72))))))))

def f72xJ1 (C : CallT) (K : CPost) (I : Value → Value → Value → Value → Value → Value → St → Prop) (t1 t2 t4 t5 t6 t7 : Value) (s : St) : Prop :=
  bindO (some t7) (fun x24 s =>
  bindO (binV P .add 3 x24 (.int .i64 1)) (fun x25 s =>
  bindO (some x25) (fun x7x1 s =>
  I t1 t2 t4 t5 t6 x7x1 s) s) s) s

def f72xJ2 (C : CallT) (K : CPost) (I : Value → Value → Value → Value → Value → Value → St → Prop) (t1 t2 t4 t5 t6 t7 : Value) (s : St) : Prop :=
  bindO (some t6) (fun x26 s =>
  bindO (binV P .mul 28 x26 (.int .u64 6364136223846793005)) (fun x27 s =>
  bindO (binV P .add 28 x27 (.int .u64 1442695040888963407)) (fun x28 s =>
  bindO (some t1) (fun x29 s =>
  bindO (binV P .add 28 x28 x29) (fun x30 s =>
  bindO (some t7) (fun x31 s =>
  bindO (idxAddr (tElem P 27) t2 x31) (fun x32 s =>
  bindO (loadV (tAgg P 5) x32 s) (fun x33 s =>
  bindO (convV (P.underlying 5).isSome (tInt P 28) x33) (fun x34 s =>
  bindO (binV P .add 28 x30 x34) (fun x35 s =>
  bindO (some x35) (fun x6x1 s =>
  bindO (some t7) (fun x36 s =>
  bindO (some x6x1) (fun x37 s =>
  bindO (binV P .shr 28 x37 (.int .u64 56)) (fun x38 s =>
  bindO (convV (P.underlying 28).isSome (tInt P 5) x38) (fun x39 s =>
  bindO (idxAddr (tElem P 29) t5 x36) (fun x40 s =>
  storeW (tSize P 5) x40 x39 (fun _ s =>
  f72xJ1 C K I t1 t2 t4 t5 x6x1 t7 s) s) s) s) s) s) s) s) s) s) s) s) s) s) s) s) s) s

def f72xB0 (C : CallT) (K : CPost) (I : Value → Value → Value → Value → Value → Value → St → Prop) (t1 t2 t4 t5 t6 t7 : Value) (s : St) : Prop :=
  bindO (some t7) (fun x22 s =>
  bindO (binV P .lss 3 x22 (.int .i64 32)) (fun x23 s =>
  condW x23
  (f72xJ2 C K I t1 t2 t4 t5 t6 t7 s)
  (K (.exit 0) (ofL (undef :: t1 :: t2 :: undef :: t4 :: t5 :: t6 :: t7 :: undef :: undef :: undef :: undef :: undef :: undef :: undef :: undef :: undef :: undef :: undef :: undef :: undef :: undef :: undef :: undef :: undef :: undef :: undef :: undef :: undef :: undef :: undef :: undef :: undef :: undef :: undef :: undef :: undef :: undef :: undef :: undef :: undef :: undef :: [])) s)) s) s

theorem f72xloop0 {C : CallT} {K : CPost} {t1 t2 t4 t5 t6 t7 : Value} {s : St} (h : ∀ I : Value → Value → Value → Value → Value → Value → St → Prop, (∀ t1 t2 t4 t5 t6 t7 s, f72xB0 C K I t1 t2 t4 t5 t6 t7 s → I t1 t2 t4 t5 t6 t7 s) → I t1 t2 t4 t5 t6 t7 s) :
    evC P C h72 f72xl0 0 K (ofL (undef :: t1 :: t2 :: undef :: t4 :: t5 :: t6 :: t7 :: undef :: undef :: undef :: undef :: undef :: undef :: undef :: undef :: undef :: undef :: undef :: undef :: undef :: undef :: undef :: undef :: undef :: undef :: undef :: undef :: undef :: undef :: undef :: undef :: undef :: undef :: undef :: undef :: undef :: undef :: undef :: undef :: undef :: undef :: [])) s := by
  have e : evC P C h72 f72xl0 0 K (ofL (undef :: t1 :: t2 :: undef :: t4 :: t5 :: t6 :: t7 :: undef :: undef :: undef :: undef :: undef :: undef :: undef :: undef :: undef :: undef :: undef :: undef :: undef :: undef :: undef :: undef :: undef :: undef :: undef :: undef :: undef :: undef :: undef :: undef :: undef :: undef :: undef :: undef :: undef :: undef :: undef :: undef :: undef :: undef :: [])) s = LoopC P C h72 f72xb0 0 K (undef :: t1 :: t2 :: undef :: t4 :: t5 :: t6 :: t7 :: undef :: undef :: undef :: undef :: undef :: undef :: undef :: undef :: undef :: undef :: undef :: undef :: undef :: undef :: undef :: undef :: undef :: undef :: undef :: undef :: undef :: undef :: undef :: undef :: undef :: undef :: undef :: undef :: undef :: undef :: undef :: undef :: undef :: undef :: []) s := by kernel_rfl
  rw [e]
  intro J hJ
  refine h (fun t1 t2 t4 t5 t6 t7 s => J (undef :: t1 :: t2 :: undef :: t4 :: t5 :: t6 :: t7 :: undef :: undef :: undef :: undef :: undef :: undef :: undef :: undef :: undef :: undef :: undef :: undef :: undef :: undef :: undef :: undef :: undef :: undef :: undef :: undef :: undef :: undef :: undef :: undef :: undef :: undef :: undef :: undef :: undef :: undef :: undef :: undef :: undef :: undef :: []) s) (fun t1 t2 t4 t5 t6 t7 s hb => hJ _ s ?_)
  have e2 : evC P C h72 f72xb0 0 (kLoop h72 0 J K) (ofL (undef :: t1 :: t2 :: undef :: t4 :: t5 :: t6 :: t7 :: undef :: undef :: undef :: undef :: undef :: undef :: undef :: undef :: undef :: undef :: undef :: undef :: undef :: undef :: undef :: undef :: undef :: undef :: undef :: undef :: undef :: undef :: undef :: undef :: undef :: undef :: undef :: undef :: undef :: undef :: undef :: undef :: undef :: undef :: [])) s = f72xB0 C K (fun t1 t2 t4 t5 t6 t7 s => J (undef :: t1 :: t2 :: undef :: t4 :: t5 :: t6 :: t7 :: undef :: undef :: undef :: undef :: undef :: undef :: undef :: undef :: undef :: undef :: undef :: undef :: undef :: undef :: undef :: undef :: undef :: undef :: undef :: undef :: undef :: undef :: undef :: undef :: undef :: undef :: undef :: undef :: undef :: undef :: undef :: undef :: undef :: undef :: []) s) t1 t2 t4 t5 t6 t7 s := by kernel_rfl
  rw [e2]
  exact hb

def f72xJ3 (C : CallT) (Q : Post) (s0 : St) (t4 t5 : Value) (s : St) : Prop :=
  bindO (loadV (tAgg P 29) t5 s) (fun x41 s =>
  storeW (tSize P 29) t4 x41 (fun _ s =>
  kEnd Q s0 (retV (consO (loadV (tAgg P 29) t4 s) (some []))) s) s) s

def f72xE0x0 (C : CallT) (Q : Post) (s0 : St) (t4 t5 : Value) (s : St) : Prop :=
  f72xJ3 C Q s0 t4 t5 s

noncomputable def f72xK4 (C : CallT) (Q : Post) (s0 : St) : CPost := kSeq (evC P C h72 (cR (cR (cR (cR (cF P 72))))) 0 (kBody P (cN P 72) Q s0)) (kBody P (cN P 72) Q s0)

noncomputable def f72xK5 (C : CallT) (Q : Post) (s0 : St) : CPost := kBlock 0 (f72xK4 C Q s0)

theorem f72xE0x0xeq (C : CallT) (Q : Post) (s0 : St) (t1 t2 t4 t5 t6 t7 : Value) (s : St) : (f72xK5 C Q s0) (.exit 0) (ofL (undef :: t1 :: t2 :: undef :: t4 :: t5 :: t6 :: t7 :: undef :: undef :: undef :: undef :: undef :: undef :: undef :: undef :: undef :: undef :: undef :: undef :: undef :: undef :: undef :: undef :: undef :: undef :: undef :: undef :: undef :: undef :: undef :: undef :: undef :: undef :: undef :: undef :: undef :: undef :: undef :: undef :: undef :: undef :: [])) s = f72xE0x0 C Q s0 t4 t5 s := by kernel_rfl

def f72xS (C : CallT) (Q : Post) (t0 t1 : Value) (s0 : St) : Prop :=
  newW (boxN t0) (fun x2 s =>
  newW (zeroN (tZero P 29)) (fun x4 s =>
  newW (zeroN (tZero P 29)) (fun x5 s =>
  bindO (idxAddr (tElem P 27) x2 (.int .i64 0)) (fun x8 s =>
  bindO (loadV (tAgg P 5) x8 s) (fun x9 s =>
  bindO (convV (P.underlying 5).isSome (tInt P 28) x9) (fun x10 s =>
  bindO (idxAddr (tElem P 27) x2 (.int .i64 1)) (fun x11 s =>
  bindO (loadV (tAgg P 5) x11 s) (fun x12 s =>
  bindO (convV (P.underlying 5).isSome (tInt P 28) x12) (fun x13 s =>
  bindO (binV P .mul 28 (.int .u64 256) x13) (fun x14 s =>
  bindO (binV P .add 28 x10 x14) (fun x15 s =>
  bindO (idxAddr (tElem P 27) x2 (.int .i64 2)) (fun x16 s =>
  bindO (loadV (tAgg P 5) x16 s) (fun x17 s =>
  bindO (convV (P.underlying 5).isSome (tInt P 28) x17) (fun x18 s =>
  bindO (binV P .mul 28 (.int .u64 65536) x18) (fun x19 s =>
  bindO (binV P .add 28 x15 x19) (fun x20 s =>
  bindO (binV P .add 28 x20 (.int .u64 7)) (fun x21 s =>
  bindO (some x21) (fun x6 s =>
  bindO (some (.int .i64 0)) (fun x7 s =>
  evC P C h72 f72xl0 0 (f72xK5 C Q s0) (ofL (undef :: t1 :: x2 :: undef :: x4 :: x5 :: x6 :: x7 :: undef :: undef :: undef :: undef :: undef :: undef :: undef :: undef :: undef :: undef :: undef :: undef :: undef :: undef :: undef :: undef :: undef :: undef :: undef :: undef :: undef :: undef :: undef :: undef :: undef :: undef :: undef :: undef :: undef :: undef :: undef :: undef :: undef :: undef :: [])) s) s) s) s) s) s) s) s) s) s) s) s) s) s) s) s) s) s) s) s0

theorem f72xeq (C : CallT) (Q : Post) (t0 t1 : Value) (s0 : St) : bodyW P C wips 72 [t0, t1] Q s0 = f72xS C Q t0 t1 s0 := by kernel_rfl

end Go.Zz
