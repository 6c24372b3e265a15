import Derived.Test.YtnghaapdoanabaaGreatDoorU0
set_option linter.all false
set_option maxRecDepth 20000
set_option linter.all false
namespace Go.Zz
open Go
noncomputable section
variable (C:cT)(K:kT)(Q:pT)(s0:St)(a b c d e f g h i j l m n o p q r t u v w x y z A B D E F G H J M N O R T U V W X Y Z a0 a1 a2 a3 a4 a5 a6 a7 a8 a9 b0 b1 b2 b3 b4 b5 b6 b7 b8 b9:vT)(s:St)
def f110xl0:Code:=cp 110 [3,0,0]
def f110xF0:List Value:=a::b::un 8 (c::d::un 156 [])
@[simp]def f110xJ1(C:cT)(K:kT)(I:V4)(a b c d:vT):oT:=bA 3 c fun e=>I a b e d
@[simp]def f110xB0(C:cT)(K:kT)(I:V4)(a b c d:vT):oT:=oV .leq 3 c d fun e=>gJt e a fun f=>gJt e c fun g=>gIt e 34 f g fun h=>gLt e 43 h fun i=>gJt e a fun j=>gJt e b fun l=>gIt e 34 j l fun m=>gLt e 43 m fun n=>wt e (fun k s=>callF P C (fv 108) [i,n] k s) fun o=>oP e o fun p=>cw p (f110xJ1 C K I a b c d) (K (.exit 0) (ofL (f110xF0 a b c d)))
def f110xloop0:=lp4 h110 f110xl0 0 f110xF0 f110xB0 (cp 110 [3,0,0,0])
def f110xl1:Code:=cp 110 [4,0,0]
def f110xF1:List Value:=a::b::un 8 (c::d::un 156 [])
@[simp]def f110xJ2(C:cT)(K:kT)(I:V4)(a b c d:vT):oT:=bC .sub 3 d 1 fun e=>I a b c e
@[simp]def f110xB1(C:cT)(K:kT)(I:V4)(a b c d:vT):oT:=oV .leq 3 c d fun e=>gJt e a fun f=>gJt e d fun g=>gIt e 34 f g fun h=>gLt e 43 h fun i=>gJt e a fun j=>gJt e b fun l=>gIt e 34 j l fun m=>gLt e 43 m fun n=>wt e (fun k s=>callF P C (fv 108) [i,n] k s) fun o=>gOt e (unV .not o) fun p=>oP e p fun q=>cw q (f110xJ2 C K I a b c d) (K (.exit 2) (ofL (f110xF1 a b c d)))
def f110xloop1:=lp4 h110 f110xl1 2 f110xF1 f110xB1 (cp 110 [4,0,0,0])
def f110xl2:Code:=cp 110 [9,0,0]
def f110xF2:List Value:=a::b::un 8 (c::d::un 156 [])
def f110xl3:Code:=cp 110 [9,0,0,0,0,0,0]
def f110xF3:List Value:=a::b::un 8 (c::d::un 156 [])
@[simp]def f110xJ3(C:cT)(K:kT)(I:V4)(a b c d:vT):oT:=bA 3 c fun e=>I a b e d
@[simp]def f110xB3(C:cT)(K:kT)(I:V4)(a b c d:vT):oT:=oV .leq 3 c d fun e=>gJt e a fun f=>gJt e c fun g=>gIt e 34 f g fun h=>gLt e 43 h fun i=>gJt e a fun j=>gJt e b fun l=>gIt e 34 j l fun m=>gLt e 43 m fun n=>wt e (fun k s=>callF P C (fv 108) [i,n] k s) fun o=>oP e o fun p=>cw p (f110xJ3 C K I a b c d) (K (.exit 6) (ofL (f110xF3 a b c d)))
def f110xloop3:=lp4 h110 f110xl3 6 f110xF3 f110xB3 (cp 110 [9,0,0,0,0,0,0,0])
def f110xl4:Code:=cp 110 [9,0,0,0,1,0,0]
def f110xF4:List Value:=a::b::un 8 (c::d::un 156 [])
@[simp]def f110xJ4(C:cT)(K:kT)(I:V4)(a b c d:vT):oT:=bC .sub 3 d 1 fun e=>I a b c e
@[simp]def f110xB4(C:cT)(K:kT)(I:V4)(a b c d:vT):oT:=oV .leq 3 c d fun e=>gJt e a fun f=>gJt e d fun g=>gIt e 34 f g fun h=>gLt e 43 h fun i=>gJt e a fun j=>gJt e b fun l=>gIt e 34 j l fun m=>gLt e 43 m fun n=>wt e (fun k s=>callF P C (fv 108) [i,n] k s) fun o=>gOt e (unV .not o) fun p=>oP e p fun q=>cw q (f110xJ4 C K I a b c d) (K (.exit 8) (ofL (f110xF4 a b c d)))
def f110xloop4:=lp4 h110 f110xl4 8 f110xF4 f110xB4 (cp 110 [9,0,0,0,1,0,0,0])
@[simp]def f110xJ5(C:cT)(K:kT)(I:V4)(a b c d:vT):oT:=oI 34 a d fun e=>oL 43 e fun f=>oI 34 a c fun g=>oL 43 g fun h=>oI 34 a c fun i=>sw 43 i f (oI 34 a d fun j=>sw 43 j h (bA 3 c fun l=>bC .sub 3 d 1 fun m=>I a b l m))
@[simp]def f110xJ6(C:cT)(K:kT)(I:V4)(a b c d:vT):oT:=bV .gtr 3 c d fun e=>cw e (K (.exit 4) (ofL (f110xF2 a b c d))) (f110xJ5 C K I a b c d)
def f110xK7(C:cT)(K:kT)(I:V4):CPost:=kBlock 5 (kLoop h110 4 (fun l s=>I (l.getD 0 undef) (l.getD 1 undef) (l.getD 10 undef) (l.getD 11 undef) s) K)
def f110xK9(C:cT)(K:kT)(I:V4):CPost:=kBlock 8 (kSeq (evC P C h110 (cR (cR (cL (cL (cL (cL (cp 110 [9]))))))) 5 (f110xK7 C K I)) (f110xK7 C K I))
@[simp]theorem f110xE4x8xeq(I:V4):(f110xK9 C K I) (.exit 8) (ofL (f110xF4 a c d e)) s=f110xJ6 C K I a c d e s:=by kernel_rfl
@[simp]def f110xJ10(C:cT)(K:kT)(I:V4)(a b c d:vT):oT:=evC P C h110 f110xl4 8 (f110xK9 C K I) (ofL (f110xF4 a b c d))
def f110xK12(C:cT)(K:kT)(I:V4):CPost:=kBlock 6 (kSeq (evC P C h110 (cR (cL (cL (cL (cL (cp 110 [9])))))) 5 (f110xK7 C K I)) (f110xK7 C K I))
@[simp]theorem f110xE3x6xeq(I:V4):(f110xK12 C K I) (.exit 6) (ofL (f110xF3 a c d e)) s=f110xJ10 C K I a c d e s:=by kernel_rfl
@[simp]def f110xB2(C:cT)(K:kT)(I:V4)(a b c d:vT):oT:=evC P C h110 f110xl3 6 (f110xK12 C K I) (ofL (f110xF3 a b c d))
def f110xloop2:=lp4 h110 f110xl2 4 f110xF2 f110xB2 (cp 110 [9,0,0,0])
@[simp]def f110xJ13(C:cT)(Q:pT)(s0:St)(a b c:vT):oT:=oI 34 a b fun d=>oL 43 d fun e=>oI 34 a c fun f=>oL 43 f fun g=>oI 34 a c fun h=>sw 43 h e (oI 34 a b fun i=>sw 43 i g (r2 Q s0 c (.bool false)))
def f110xK15:CPost:=kBlock 4 (kSeq (evC P C h110 (cp 110 [10]) 0 (kB 110 Q s0)) (kB 110 Q s0))
@[simp]theorem f110xE2x4xeq:(f110xK15 C Q s0) (.exit 4) (ofL (f110xF2 a b c d)) s=f110xJ13 C Q s0 a b d s:=by kernel_rfl
@[simp]def f110xJ16:oT:=oI 34 a d fun e=>oL 43 e fun f=>oI 34 a c fun g=>oL 43 g fun h=>oI 34 a c fun i=>sw 43 i f (oI 34 a d fun j=>sw 43 j h (bA 3 c fun l=>bC .sub 3 d 1 fun m=>evC P C h110 f110xl2 4 (f110xK15 C Q s0) (ofL (f110xF2 a b l m))))
@[simp]def f110xJ17:oT:=bV .gtr 3 c d fun e=>cw e (oI 34 a b fun f=>oL 43 f fun g=>oI 34 a d fun h=>oL 43 h fun i=>oI 34 a d fun j=>sw 43 j g (oI 34 a b fun l=>sw 43 l i (r2 Q s0 d (.bool true)))) (f110xJ16 C Q s0 a b c d)
def f110xK19:CPost:=kBlock 2 (kSeq (evC P C h110 (cp 110 [5]) 0 (kB 110 Q s0)) (kB 110 Q s0))
@[simp]theorem f110xE1x2xeq:(f110xK19 C Q s0) (.exit 2) (ofL (f110xF1 a b c d)) s=f110xJ17 C Q s0 a b c d s:=by kernel_rfl
@[simp]def f110xJ20:oT:=evC P C h110 f110xl1 2 (f110xK19 C Q s0) (ofL (f110xF1 a b c d))
def f110xK22:CPost:=kBlock 0 (kSeq (evC P C h110 (cp 110 [4]) 0 (kB 110 Q s0)) (kB 110 Q s0))
@[simp]theorem f110xE0x0xeq:(f110xK22 C Q s0) (.exit 0) (ofL (f110xF0 a b c d)) s=f110xJ20 C Q s0 a b c d s:=by kernel_rfl
@[simp]def f110xS(C:cT)(Q:pT)(a b c d:vT)(s0:St):Prop:=(oI 34 a d fun e=>oL 43 e fun f=>oI 34 a b fun g=>oL 43 g fun h=>oI 34 a b fun i=>sw 43 i f (oI 34 a d fun j=>sw 43 j h (bA 3 b fun l=>bC .sub 3 c 1 fun m=>evC P C h110 f110xl0 0 (f110xK22 C Q s0) (ofL (f110xF0 a b l m))))) s0
def f110xin:=en4 110 f110xS
def f112xc0 : ByteArray := bAr [0, 1, 2, 2, 3, 3, 3, 3, 4, 4, 4, 4, 4, 4, 4, 4, 5, 5, 5, 5, 5, 5, 5, 5, 5, 5, 5, 5, 5, 5, 5, 5, 6, 6, 6, 6, 6, 6, 6, 6, 6, 6, 6, 6, 6, 6, 6, 6, 6, 6, 6, 6, 6, 6, 6, 6, 6, 6, 6, 6, 6, 6, 6, 6, 7, 7, 7, 7, 7, 7, 7, 7, 7, 7, 7, 7, 7, 7, 7, 7, 7, 7, 7, 7, 7, 7, 7, 7, 7, 7, 7, 7, 7, 7, 7, 7, 7, 7, 7, 7, 7, 7, 7, 7, 7, 7, 7, 7, 7, 7, 7, 7, 7, 7, 7, 7, 7, 7, 7, 7, 7, 7, 7, 7, 7, 7, 7, 7, 8, 8, 8, 8, 8, 8, 8, 8, 8, 8, 8, 8, 8, 8, 8, 8, 8, 8, 8, 8, 8, 8, 8, 8, 8, 8, 8, 8, 8, 8, 8, 8, 8, 8, 8, 8, 8, 8, 8, 8, 8, 8, 8, 8, 8, 8, 8, 8, 8, 8, 8, 8, 8, 8, 8, 8, 8, 8, 8, 8, 8, 8, 8, 8, 8, 8, 8, 8, 8, 8, 8, 8, 8, 8, 8, 8, 8, 8, 8, 8, 8, 8, 8, 8, 8, 8, 8, 8, 8, 8, 8, 8, 8, 8, 8, 8, 8, 8, 8, 8, 8, 8, 8, 8, 8, 8, 8, 8, 8, 8, 8, 8, 8, 8, 8, 8, 8, 8, 8, 8, 8, 8, 8, 8, 8, 8, 8, 8]
@[simp]def f112xJ1(C:cT)(Q:pT)(s0:St)(a b:vT):oT:=bR 43 5 a fun c=>bO (idxVal (tIsStr P 9) (tElem P 9) (.string f112xc0) c) fun d=>bR 5 3 d fun e=>bV .add 3 b e fun f=>r1 Q s0 f
@[simp]def f112xJ2:oT:=bV .geq 43 a (.int .u64 256) fun c=>cw c (bV .shr 43 a (.int .u64 8) fun d=>bC .add 3 b 8 fun e=>f112xJ1 C Q s0 d e) (f112xJ1 C Q s0 a b)
@[simp]def f112xJ3:oT:=bV .geq 43 a (.int .u64 65536) fun c=>cw c (bV .shr 43 a (.int .u64 16) fun d=>bC .add 3 b 16 fun e=>f112xJ2 C Q s0 d e) (f112xJ2 C Q s0 a b)
@[simp]def f112xS(C:cT)(Q:pT)(a:vT)(s0:St):Prop:=(bV .geq 43 a (.int .u64 4294967296) fun b=>cw b (bV .shr 43 a (.int .u64 32) fun c=>f112xJ3 C Q s0 c (.int .i64 32)) (f112xJ3 C Q s0 a (.int .i64 0))) s0
def f112xin:=en1 112 f112xS
@[simp]def f113xS(C:cT)(Q:pT)(a b:vT)(s0:St):Prop:=(bR 47 9 a fun c=>bR 47 9 b fun d=>bV .eql 9 c d fun e=>r1 Q s0 e) s0
def f113xin:=en2 113 f113xS
@[simp]def f114xS(C:cT)(Q:pT)(a:vT)(s0:St):Prop:=(nB a fun b=>bF 46 0 b fun c=>bL 3 c fun d=>cf C 74 [d,(.int .i64 15)] fun e=>wFt e 46 1 b fun f=>wLt e 3 f fun g=>wt e (fun k s=>callF P C (fv 74) [g,(.int .i64 7)] k s) fun h=>bP e h fun i=>wFt i 46 2 b fun j=>wLt i 3 j fun l=>wt i (fun k s=>callF P C (fv 74) [l,(.int .i64 255)] k s) fun m=>bP i m fun n=>r1 Q s0 n) s0
def f114xin:=en1 114 f114xS
def f115xl0:Code:=cp 115 [2,0]
def f115xF0:List Value:=a::un 10 (b::c::d::un 11 [])
@[simp]def f115xB0(C:cT)(K:kT)(I:V4)(a b c d:vT):oT:=bV .lss 3 d c fun e=>cw e (bI 144 b d fun f=>bL 147 f fun g=>nZ 147 fun h=>sw 147 h g (bF 147 0 h fun i=>bL 43 i fun j=>bF 147 1 h fun l=>bL 3 l fun m=>callF P C a [j,m] fun n=>bM n fun o=>cw o (K .ret (ofL (f115xF0 a b c d))) (bA 3 d fun p=>I a b c p))) (K (.exit 0) (ofL (f115xF0 a b c d)))
def f115xloop0:=lp4 h115 f115xl0 0 f115xF0 f115xB0 (cp 115 [2,0,0])
def f115xK3(C:cT)(Q:pT)(s0:St):CPost:=kBlock 0 (kB 115 Q s0)
@[simp]theorem f115xE0x0xeq:(f115xK3 C Q s0) (.exit 0) (ofL (f115xF0 a b c d)) s=r0 Q s0 s:=by kernel_rfl
@[simp]theorem f115xE0xret_eq:(f115xK3 C Q s0) .ret (ofL (f115xF0 a b c d)) s=r0 Q s0 s:=by kernel_rfl
@[simp]def f115xS(C:cT)(Q:pT)(a b:vT)(s0:St):Prop:=(bL 79 b fun c=>bZ 79 c fun d=>cw d (r0 Q s0) (bL 79 b fun e=>bN e fun f=>bF 149 0 f fun g=>bL 144 g fun h=>cf C 70 [h] fun i=>bH 144 i fun j=>evC P C h115 f115xl0 0 (f115xK3 C Q s0) (ofL (f115xF0 a i j (.int .i64 0))))) s0
def f115xin:=en2 115 f115xS
@[simp]def f116xS(C:cT)(Q:pT)(a b:vT)(s0:St):Prop:=(cf C 95 [a,b] fun c=>bE c 0 fun d=>bE c 1 fun e=>bM e fun f=>cw f (r2 Q s0 (.int .i64 0) (.bool false)) (bN a fun g=>bF 149 0 g fun h=>bL 144 h fun i=>bI 144 i d fun j=>bF 147 1 j fun l=>bL 3 l fun m=>r2 Q s0 m (.bool true))) s0
def f116xin:=en2 116 f116xS
@[simp]def f117xS(C:cT)(Q:pT)(a:vT)(s0:St):Prop:=(bH 28 a fun b=>bR 3 138 b fun c=>cf C 67 [c] fun d=>cf C 148 [a,(.int .i64 0),b,d] fun _=>r0 Q s0) s0
def f117xin:=en1 117 f117xS
def f118xl0:Code:=cp 118 [2,1,0]
def f118xF0:List Value:=a::undef::b::c::un 57 []
def f118xl1:Code:=cp 118 [2,1,0,1,0,1,1,1,0]
def f118xF1:List Value:=a::undef::undef::b::c::d::un 55 []
@[simp]def f118xJ1(C:cT)(K:kT)(I:V4)(a b c d:vT):oT:=bA 3 d fun e=>I a b c e
@[simp]def f118xB1(C:cT)(K:kT)(I:V4)(a b c d:vT):oT:=bH 28 c fun e=>bV .lss 3 d e fun f=>cw f (oI 28 c d fun g=>oL 3 g fun h=>oC .sub 3 d 1 fun i=>oI 28 c i fun j=>oL 3 j fun l=>oV .neq 3 h l fun m=>cw m (bI 28 c d fun n=>bL 3 n fun o=>bI 28 a b fun p=>sw 3 p o (bA 3 b fun q=>f118xJ1 C K I a q c d)) (f118xJ1 C K I a b c d)) (K (.exit 2) (ofL (f118xF1 a b c d)))
def f118xloop1:=lp4 h118 f118xl1 2 f118xF1 f118xB1 (cp 118 [2,1,0,1,0,1,1,1,0,0])
def f118xK5(C:cT)(K:kT)(I:V3):CPost:=kBlock 1 (kSeq (evC P C h118 (cR (cR (cL (cL (cR (cL (cp 118 [2]))))))) 0 (kLoop h118 0 (fun l s=>I (l.getD 0 undef) (l.getD 2 undef) (l.getD 3 undef) s) K)) (kLoop h118 0 (fun l s=>I (l.getD 0 undef) (l.getD 2 undef) (l.getD 3 undef) s) K))
def f118xK7(C:cT)(K:kT)(I:V3):CPost:=kBlock 2 (kSeq (evC P C h118 (cR (cR (cL (cR (cL (cL (cR (cL (cL (cR (cL (cp 118 [2])))))))))))) 1 (f118xK5 C K I)) (f118xK5 C K I))
@[simp]theorem f118xE1x2xeq(I:V3):(f118xK7 C K I) (.exit 2) (ofL (f118xF1 a c d e)) s=(bS (fun s=>slcV P 28 a (some c) none none s) fun f=>clearW P 28 f fun _=>bS (fun s=>slcV P 28 a none (some c) none s) fun g=>K .ret (ofL (f118xF0 a g c))) s:=by kernel_rfl
@[simp]def f118xB0(C:cT)(K:kT)(I:V3)(a b c:vT):oT:=bH 28 a fun d=>bV .lss 3 c d fun e=>cw e (oI 28 a c fun f=>oL 3 f fun g=>oC .sub 3 c 1 fun h=>oI 28 a h fun i=>oL 3 i fun j=>oV .eql 3 g j fun l=>cw l (bS (fun s=>slcV P 28 a (some c) none none s) fun m=>evC P C h118 f118xl1 2 (f118xK7 C K I) (ofL (f118xF1 a c m (.int .i64 1)))) (bA 3 c fun n=>I a b n)) (K (.exit 0) (ofL (f118xF0 a b c)))
def f118xloop0:=lp3 h118 f118xl0 0 f118xF0 f118xB0 (cp 118 [2,1,0,0])
def f118xK12:CPost:=kBlock 0 (kSeq (evC P C h118 (cp 118 [3]) 0 (kB 118 Q s0)) (kB 118 Q s0))
@[simp]theorem f118xE0x0xeq:(f118xK12 C Q s0) (.exit 0) (ofL (f118xF0 a b c)) s=r1 Q s0 a s:=by kernel_rfl
@[simp]theorem f118xE0xret_eq:(f118xK12 C Q s0) .ret (ofL (f118xF0 a b c)) s=r1 Q s0 b s:=by kernel_rfl
@[simp]def f118xS(C:cT)(Q:pT)(a:vT)(s0:St):Prop:=(bH 28 a fun b=>bC .lss 3 b 2 fun c=>cw c (r1 Q s0 a) (evC P C h118 f118xl0 0 (f118xK12 C Q s0) (ofL (f118xF0 a (.slice none 0 0) (.int .i64 1))))) s0
def f118xin:=en1 118 f118xS
@[simp]def f121xS(C:cT)(Q:pT)(a:vT)(s0:St):Prop:=(bC .geq 3 a 1 fun b=>wJt b a fun c=>wCt b .leq 3 c 1073741824 fun d=>bP b d fun e=>r1 Q s0 e) s0
def f121xin:=en1 121 f121xS
@[simp]def f122xS(C:cT)(Q:pT)(a b:vT)(s0:St):Prop:=(cf C 116 [a,b] fun c=>bE c 0 fun d=>bE c 1 fun e=>cf C 57 [a,b] fun f=>bE f 0 fun g=>bE f 1 fun h=>bM h fun i=>cw i (r4 Q s0 d (.int .i64 0) e (.bool true)) (cf C 116 [a,g] fun j=>bE j 0 fun l=>bE j 1 fun _=>r4 Q s0 d l e (.bool false))) s0
def f122xin:=en2 122 f122xS
def f123xl0:Code:=cp 123 [1,1,0]
def f123xF0:List Value:=a::b::undef::undef::c::undef::undef::d::e::un 10 []
@[simp]def f123xB0(C:cT)(K:kT)(I:V5)(a b c d e:vT):oT:=bV .lss 3 e d fun f=>cw f (bI 34 a e fun g=>bL 43 g fun h=>bV .eql 43 b h fun i=>cw i (K .ret (ofL (f123xF0 a b e d e))) (bA 3 e fun j=>I a b c d j)) (K (.exit 0) (ofL (f123xF0 a b c d e)))
def f123xloop0:=lp5 h123 f123xl0 0 f123xF0 f123xB0 (cp 123 [1,1,0,0])
def f123xK5:CPost:=kBlock 0 (kSeq (evC P C h123 (cp 123 [2]) 0 (kB 123 Q s0)) (kB 123 Q s0))
@[simp]theorem f123xE0x0xeq:(f123xK5 C Q s0) (.exit 0) (ofL (f123xF0 a b c d e)) s=r1 Q s0 (.int .i64 (-1)) s:=by kernel_rfl
@[simp]theorem f123xE0xret_eq:(f123xK5 C Q s0) .ret (ofL (f123xF0 a b c d e)) s=r1 Q s0 c s:=by kernel_rfl
@[simp]def f123xS(C:cT)(Q:pT)(a b:vT)(s0:St):Prop:=(bH 34 a fun c=>evC P C h123 f123xl0 0 (f123xK5 C Q s0) (ofL (f123xF0 a b (.int .i64 0) c (.int .i64 0)))) s0
def f123xin:=en2 123 f123xS
@[simp]def f124xS(C:cT)(Q:pT)(a b:vT)(s0:St):Prop:=(nB b fun c=>bL 204 c fun d=>cf C 150 [a,d] fun e=>bE e 0 fun f=>bE e 1 fun _=>bL 204 c fun g=>cf C 151 [f,g] fun h=>bE h 0 fun i=>bE h 1 fun j=>cw j (bN f fun l=>bF 233 1 l fun m=>bL 34 m fun n=>bI 34 n i fun o=>bL 43 o fun p=>r2 Q s0 p (.bool true)) (r2 Q s0 (.int .u64 0) (.bool false))) s0
def f124xin:=en2 124 f124xS
@[simp]def f125xS(C:cT)(Q:pT)(a b:vT)(s0:St):Prop:=(nB b fun c=>oL 204 c fun d=>cf C 153 [a] fun e=>kL 204 c d (cf C 152 [e,d] fun f=>oE f 0 fun g=>oE f 1 fun h=>bM h fun i=>cw i (r1 Q s0 a) (cf C 154 [a] fun j=>bC .sub 3 j 1 fun l=>bO (buildV P 201 #[(0,g),(1,l)]) fun m=>nB m fun n=>r1 Q s0 n))) s0
def f125xin:=en2 125 f125xS
@[simp]def f126xS(C:cT)(Q:pT)(a b c:vT)(s0:St):Prop:=(bH 144 a fun d=>bS (fun s=>slcV P 144 a (some b) (some c) (some d) s) fun _=>bV .eql 3 b c fun e=>cw e (r1 Q s0 a) (bH 144 a fun f=>oS (fun s=>slcV P 144 a none (some b) none s) fun g=>oS (fun s=>slcV P 144 a (some c) none none s) fun h=>apdW P (tSlice P 144) 144 g h fun i=>bH 144 i fun j=>bS (fun s=>slcV P 144 i (some j) (some f) none s) fun l=>clearW P 144 l fun _=>r1 Q s0 i)) s0
def f126xin:=en3 126 f126xS
@[simp]def f127xS(C:cT)(Q:pT)(a b:vT)(s0:St):Prop:=(nB b fun c=>bN a fun d=>bF 134 0 d fun e=>bL 132 e fun f=>bO (mkFn 156 #[] #[c]) fun g=>cf C 155 [f,g] fun h=>r1 Q s0 h) s0
def f127xin:=en2 127 f127xS
@[simp]def f128xS(C:cT)(Q:pT)(a b c:vT)(s0:St):Prop:=(bH 132 a fun d=>bS (fun s=>slcV P 132 a (some b) (some c) (some d) s) fun _=>bV .eql 3 b c fun e=>cw e (r1 Q s0 a) (bH 132 a fun f=>oS (fun s=>slcV P 132 a none (some b) none s) fun g=>oS (fun s=>slcV P 132 a (some c) none none s) fun h=>apdW P (tSlice P 132) 132 g h fun i=>bH 132 i fun j=>bS (fun s=>slcV P 132 i (some j) (some f) none s) fun l=>clearW P 132 l fun _=>r1 Q s0 i)) s0
def f128xin:=en3 128 f128xS
def f129xl0:Code:=cp 129 [3,0,0]
def f129xF0:List Value:=a::b::c::un 5 (d::e::f::un 38 [])
@[simp]def f129xB0(C:cT)(K:kT)(I:V6)(a b c d e f:vT):oT:=bV .lss 3 e f fun g=>cw g (bV .add 3 e f fun h=>bR 3 138 h fun i=>bV .shr 138 i (.int .u64 1) fun j=>bR 138 3 j fun l=>bI 144 a l fun m=>bL 147 m fun n=>callF P C c [n,b] fun o=>bC .lss 3 o 0 fun p=>cw p (bA 3 l fun q=>I a b c d q f) (I a b c d e l)) (K (.exit 0) (ofL (f129xF0 a b c d e f)))
def f129xloop0:=lp6 h129 f129xl0 0 f129xF0 f129xB0 (cp 129 [3,0,0,0])
def f129xK4:CPost:=kBlock 0 (kSeq (evC P C h129 (cp 129 [4]) 0 (kB 129 Q s0)) (kB 129 Q s0))
@[simp]theorem f129xE0x0xeq:(f129xK4 C Q s0) (.exit 0) (ofL (f129xF0 a b c d e f)) s=(bV .lss 3 e d fun g=>wJt g c fun h=>wJt g a fun i=>wJt g e fun j=>wIt g 144 i j fun l=>wLt g 147 l fun m=>wJt g b fun n=>wt g (fun k s=>callF P C h [m,n] k s) fun o=>wCt g .eql 3 o 0 fun p=>bP g p fun q=>r2 Q s0 e q) s:=by kernel_rfl
@[simp]def f129xS(C:cT)(Q:pT)(a b c:vT)(s0:St):Prop:=(bH 144 a fun d=>evC P C h129 f129xl0 0 (f129xK4 C Q s0) (ofL (f129xF0 a b c d (.int .i64 0) d))) s0
def f129xin:=en3 129 f129xS
@[simp]def f130xS(C:cT)(Q:pT)(a b:vT)(s0:St):Prop:=(nB a fun c=>bF 147 0 c fun d=>bL 43 d fun e=>bV .lss 43 e b fun f=>cw f (r1 Q s0 (.int .i64 (-1))) (bF 147 0 c fun g=>bL 43 g fun h=>bV .gtr 43 h b fun i=>cw i (r1 Q s0 (.int .i64 1)) (r1 Q s0 (.int .i64 0)))) s0
def f130xin:=en2 130 f130xS
@[simp]def f131xS(C:cT)(Q:pT)(a:vT)(s0:St):Prop:=(cf C 157 [(.slice none 0 0),a] fun b=>r1 Q s0 b) s0
def f131xin:=en1 131 f131xS
def f132xl0:Code:=cp 132 [1,0]
def f132xF0:List Value:=a::un 4 (b::un 8 [])
@[simp]def f132xB0(C:cT)(K:kT)(I:V2)(a b:vT):oT:=nextW false b fun c=>bE c 0 fun d=>cw d (entryW b fun e=>bE e 0 fun f=>callF P C a [f] fun g=>bM g fun h=>cw h (K .ret (ofL (f132xF0 a b))) (I a b)) (K (.exit 0) (ofL (f132xF0 a b)))
def f132xloop0:=lp2 h132 f132xl0 0 f132xF0 f132xB0 (cp 132 [1,0,0])
def f132xK2(C:cT)(Q:pT)(s0:St):CPost:=kBlock 0 (kB 132 Q s0)
@[simp]theorem f132xE0x0xeq:(f132xK2 C Q s0) (.exit 0) (ofL (f132xF0 a b)) s=r0 Q s0 s:=by kernel_rfl
@[simp]theorem f132xE0xret_eq:(f132xK2 C Q s0) .ret (ofL (f132xF0 a b)) s=r0 Q s0 s:=by kernel_rfl
@[simp]def f132xS(C:cT)(Q:pT)(a b:vT)(s0:St):Prop:=(bL 117 b fun c=>rangeW (tIsMap P 117) c fun d=>evC P C h132 f132xl0 0 (f132xK2 C Q s0) (ofL (f132xF0 a d))) s0
def f132xin:=en2 132 f132xS
def f133xl0:Code:=cp 133 [2,0,0]
def f133xF0:List Value:=a::b::un 3 (c::un 25 [])
@[simp]def f133xB0(C:cT)(K:kT)(I:V3)(a b c:vT):oT:=bH 34 c fun d=>bC .lss 3 d 4 fun e=>cw e (cf C 158 [a,b] fun f=>bE f 0 fun g=>bE f 1 fun h=>nZ 49 fun i=>sw 49 i g (bM h fun j=>wFf j 49 0 i fun l=>wLf j 3 l fun m=>wCf j .eql 3 m 1 fun n=>bQ j n fun o=>cw o (K (.exit 0) (ofL (f133xF0 a b c))) (bF 49 4 i fun p=>bL 43 p fun q=>newW (bslN (tSlice P 34) 1 #[(0,q)]) fun r=>apdW P (tSlice P 34) 34 c r fun t=>I a q t))) (K (.exit 0) (ofL (f133xF0 a b c)))
def f133xloop0:=lp3 h133 f133xl0 0 f133xF0 f133xB0 (cp 133 [2,0,0,0])
def f133xK5:CPost:=kBlock 0 (kSeq (evC P C h133 (cp 133 [3]) 0 (kB 133 Q s0)) (kB 133 Q s0))
@[simp]theorem f133xE0x0xeq:(f133xK5 C Q s0) (.exit 0) (ofL (f133xF0 a b c)) s=r1 Q s0 c s:=by kernel_rfl
@[simp]def f133xS(C:cT)(Q:pT)(a b:vT)(s0:St):Prop:=(fun s0=>evC P C h133 f133xl0 0 (f133xK5 C Q s0) (ofL (f133xF0 a b (.slice none 0 0))) s0) s0
def f133xin:=en2 133 f133xS
@[simp]def f134xS(C:cT)(Q:pT)(a:vT)(s0:St):Prop:=(cf C 69 [a] fun b=>nZ 140 fun c=>sw 140 c b (bO (mkFn 159 #[] #[c]) fun d=>r1 Q s0 d)) s0
def f134xin:=en1 134 f134xS
@[simp]def f135xS(C:cT)(Q:pT)(a b c:vT)(s0:St):Prop:=(nB b fun d=>bZ 78 a fun e=>wJf e c fun f=>wVf e .eql 43 f (.int .u64 18446744073709551615) fun g=>bQ e g fun h=>cw h (r2 Q s0 (.int .u64 0) (.bool false)) (oN a fun i=>oF 143 0 i fun j=>oL 140 j fun l=>oL 46 d fun m=>oV .add 43 c (.int .u64 1) fun n=>oO (buildV P 204 #[(0,m),(1,n)]) fun o=>mw (zeroN (tZero P 204)) (cf C 161 [l,o] fun p=>oE p 0 fun q=>oE p 1 fun _=>oE p 2 fun r=>nZ 204 fun t=>sw 204 t q (bM r fun u=>wFf u 204 0 t fun v=>wLf u 46 v fun w=>wLf u 46 d fun x=>wVf u .neq 46 w x fun y=>bQ u y fun z=>cw z (r2 Q s0 (.int .u64 0) (.bool false)) (bF 204 1 t fun A=>bL 43 A fun B=>r2 Q s0 B (.bool true)))))) s0
def f135xin:=en3 135 f135xS
@[simp]def f136xS(C:cT)(Q:pT)(a b:vT)(s0:St):Prop:=(cf C 65 [a,b] fun c=>bC .geq 3 c 0 fun d=>r1 Q s0 d) s0
def f136xin:=en2 136 f136xS
@[simp]def f137xS(C:cT)(Q:pT)(a b c d e:vT)(s0:St):Prop:=(bL 43 b fun f=>bV .geq 43 a f fun g=>wJt g a fun h=>wFt g 204 1 c fun i=>wLt g 43 i fun j=>wVt g .geq 43 h j fun l=>bP g l fun m=>wLt m 4 d fun n=>wOt m (unV .not n) fun o=>wJt m o fun p=>wJf p a fun q=>wLf p 43 e fun r=>wVf p .lss 43 q r fun t=>wOt m (pickV p (.bool true) t) fun u=>bP m u fun v=>r1 Q s0 v) s0
def f137xin:=en5 137 f137xS
@[simp]def f138xS(C:cT)(Q:pT)(a:vT)(s0:St):Prop:=(cf C 96 [a] fun b=>bC .eql 3 b 0 fun c=>cw c (r2 Q s0 (.int .u64 0) (.bool false)) (oN a fun d=>oF 149 0 d fun e=>oL 144 e fun f=>oN a fun g=>oF 149 0 g fun h=>oL 144 h fun i=>oH 144 i fun j=>oC .sub 3 j 1 fun l=>oI 144 f l fun m=>oF 147 0 m fun n=>oL 43 n fun o=>r2 Q s0 o (.bool true))) s0
def f138xin:=en1 138 f138xS
@[simp]def f139xS(C:cT)(Q:pT)(a b c d:vT)(s0:St):Prop:=(nB a fun e=>cf C 116 [b,c] fun f=>bE f 0 fun _=>bE f 1 fun g=>wJt g d fun h=>wLt g 76 e fun i=>wJt g b fun j=>wJt g c fun l=>wt g (fun k s=>callF P C (fv 162) [i,j,l] k s) fun m=>wVt g .lss 3 h m fun n=>bP g n fun o=>r1 Q s0 o) s0
def f139xin:=en4 139 f139xS
@[simp]def f140xS(C:cT)(Q:pT)(a b c d:vT)(s0:St):Prop:=(nB a fun e=>nB b fun f=>bF 112 2 e fun g=>bL 81 g fun h=>cf C 164 [h,c,d] fun i=>bO (mkFn 165 #[] #[f]) fun j=>cf C 163 [i,j] fun l=>r1 Q s0 l) s0
def f140xin:=en4 140 f140xS
def f141xrf0xas:Code:=cp 141 [2,1,0,0]
def f141xrf0xbd:Code:=cp 141 [2,1,1]
def f141xrf0xps:Array Tmp:=#[10]
def f141xrf0xL:List Value:=undef::a::undef::b::un 23 []
@[simp]def f141xrf0xRB(C:cT)(Q:pT)(b:Nat)(L:List vT)(a c d:vT):oT:=bL 80 a fun e=>cf C 166 [e,d] fun f=>bE f 0 fun _=>bE f 1 fun g=>bE f 2 fun h=>cw h (bL 34 c fun i=>newW (bslN (tSlice P 34) 1 #[(0,g)]) fun j=>apdW P (tSlice P 34) 34 i j fun m=>sw 34 c m fun s=>s.heap b=some (.loop L f141xrf0xps f141xrf0xas f141xrf0xbd .busy none)∧Q (.bool true) (s.put b (.loop L f141xrf0xps f141xrf0xas f141xrf0xbd .ready none))) (fun s=>s.heap b=some (.loop L f141xrf0xps f141xrf0xas f141xrf0xbd .busy none)∧Q (.bool true) (s.put b (.loop L f141xrf0xps f141xrf0xas f141xrf0xbd .ready none)))
@[simp]def f141xrf0xR(C:cT)(Q:pT)(b:Nat)(L:List vT)(a c y0:vT):oT:=fun s=>s.heap b=some (.loop L f141xrf0xps f141xrf0xas f141xrf0xbd .ready none)∧f141xrf0xRB C Q b L a c y0 (s.put b (.loop L f141xrf0xps f141xrf0xas f141xrf0xbd .busy none))
def f141xrf0xrange{a c}:=rf1 h141 f141xrf0xas f141xrf0xbd 0 27 f141xrf0xps (f141xrf0xL a c) (fun C Q b y=>f141xrf0xR C Q b (f141xrf0xL a c) a c y) rfl
def f141xK3:CPost:=kBlock 0 (kSeq (evC P C h141 (cp 141 [3]) 0 (kB 141 Q s0)) (kB 141 Q s0))
@[simp]theorem f141xrf0xE_normal_eq:(f141xK3 C Q s0) .normal (ofL (f141xrf0xL a b)) s=(bL 34 b fun c=>cf C 34 [c] fun _=>bL 34 b fun d=>cf C 35 [d] fun e=>r1 Q s0 e) s:=by kernel_rfl
@[simp]def f141xS(C:cT)(Q:pT)(a:vT)(s0:St):Prop:=(nB a fun b=>nZ 34 fun c=>bL 80 b fun d=>cf C 29 [d] fun e=>rfW P C 27 (f141xrf0xL b c) f141xrf0xps f141xrf0xas f141xrf0xbd (evC P C h141 f141xrf0xas 0) (evC P C h141 f141xrf0xbd 0) (f141xK3 C Q s0) e) s0
def f141xin:=en1 141 f141xS
def f142xl0:Code:=cp 142 [1,0]
def f142xF0:List Value:=a::undef::b::c::un 4 (d::un 67 [])
@[simp]def f142xJ1(C:cT)(K:kT)(I:V4)(a b c d e:vT):oT:=oV .add 3 c d fun f=>oV .add 3 c e fun g=>oV .add 3 c e fun h=>oI 34 a h fun i=>oL 43 i fun j=>oV .add 3 c d fun l=>oI 34 a l fun m=>oL 43 m fun n=>oI 34 a f fun o=>sw 43 o j (oI 34 a g fun p=>sw 43 p n (I a b c e))
@[simp]def f142xJ2(C:cT)(K:kT)(I:V4)(a b c d e:vT):oT:=oV .add 3 c d fun f=>oI 34 a f fun g=>oL 43 g fun h=>oV .add 3 c e fun i=>oI 34 a i fun j=>oL 43 j fun l=>cf C 108 [h,l] fun m=>oM m fun n=>cw n (K .ret (ofL (f142xF0 a b c d))) (f142xJ1 C K I a b c d e)
@[simp]def f142xJ3(C:cT)(K:kT)(I:V4)(a b c d e:vT):oT:=oA 3 e fun f=>oV .lss 3 f b fun g=>gJt g a fun h=>gJt g c fun i=>gJt g e fun j=>gOt g (binV P .add 3 i j) fun l=>gIt g 34 h l fun m=>gLt g 43 m fun n=>gJt g a fun o=>gJt g c fun p=>gJt g e fun q=>gOt g (binV P .add 3 p q) fun r=>gOt g (binV P .add 3 r (.int .i64 1)) fun t=>gIt g 34 o t fun u=>gLt g 43 u fun v=>wt g (fun k s=>callF P C (fv 108) [n,v] k s) fun w=>oP g w fun x=>cw x (bA 3 e fun y=>f142xJ2 C K I a b c d y) (f142xJ2 C K I a b c d e)
@[simp]def f142xB0(C:cT)(K:kT)(I:V4)(a b c d:vT):oT:=bV .mul 3 (.int .i64 2) d fun e=>bA 3 e fun f=>bV .geq 3 f b fun g=>cw g (K (.exit 0) (ofL (f142xF0 a b c d))) (f142xJ3 C K I a b c d f)
def f142xloop0:=lp4 h142 f142xl0 0 f142xF0 f142xB0 (cp 142 [1,0,0])
def f142xK4(C:cT)(Q:pT)(s0:St):CPost:=kBlock 0 (kB 142 Q s0)
@[simp]theorem f142xE0x0xeq:(f142xK4 C Q s0) (.exit 0) (ofL (f142xF0 a b c d)) s=r0 Q s0 s:=by kernel_rfl
@[simp]theorem f142xE0xret_eq:(f142xK4 C Q s0) .ret (ofL (f142xF0 a b c d)) s=r0 Q s0 s:=by kernel_rfl
@[simp]def f142xS(C:cT)(Q:pT)(a b c d:vT)(s0:St):Prop:=(fun s0=>evC P C h142 f142xl0 0 (f142xK4 C Q s0) (ofL (f142xF0 a c d b)) s0) s0
def f142xin:=en4 142 f142xS
@[simp]def f143xS(C:cT)(Q:pT)(a:vT)(s0:St):Prop:=(bR 3 138 a fun b=>cf C 67 [b] fun c=>bV .shl 138 (.int .u64 1) c fun d=>r1 Q s0 d) s0
def f143xin:=en1 143 f143xS
@[simp]def f144xS(C:cT)(Q:pT)(a:vT)(s0:St):Prop:=(oN a fun b=>oL 220 b fun c=>oN a fun d=>oL 220 d fun e=>oV .shl 220 e (.int .u64 13) fun f=>oV .xor 220 c f fun g=>oN a fun h=>sw 220 h g (oN a fun i=>oL 220 i fun j=>oN a fun l=>oL 220 l fun m=>oV .shr 220 m (.int .u64 7) fun n=>oV .xor 220 j n fun o=>oN a fun p=>sw 220 p o (oN a fun q=>oL 220 q fun r=>oN a fun t=>oL 220 t fun u=>oV .shl 220 u (.int .u64 17) fun v=>oV .xor 220 r v fun w=>oN a fun x=>sw 220 x w (bN a fun y=>bL 220 y fun z=>r1 Q s0 z)))) s0
def f144xin:=en1 144 f144xS
@[simp]def f145xS(C:cT)(Q:pT)(a b c:vT)(s0:St):Prop:=(bC .sub 3 b 1 fun d=>bA 3 b fun e=>cf C 146 [a,d,b,e,c] fun f=>r1 Q s0 f) s0
def f145xin:=en3 145 f145xS
@[simp]def f146xS(C:cT)(Q:pT)(a b c d e:vT)(s0:St):Prop:=(cf C 167 [a,b,c,e] fun f=>bE f 0 fun g=>bE f 1 fun h=>cf C 167 [a,h,d,e] fun i=>bE i 0 fun j=>bE i 1 fun _=>cf C 167 [a,g,j,e] fun l=>bE l 0 fun _=>bE l 1 fun m=>r1 Q s0 m) s0
def f146xin:=en5 146 f146xS
@[simp]def f147xS(C:cT)(Q:pT)(a:vT)(s0:St):Prop:=(bV .neq 43 a a fun b=>r1 Q s0 b) s0
def f147xin:=en1 147 f147xS
def f148xl0:Code:=cp 148 [2,0]
def f148xF0:List Value:=a::b::c::d::un 4 (e::f::un 124 [])
@[simp]def f148xJ1(C:cT)(K:kT)(I:V6)(a b c d e f:vT):oT:=cf C 176 [a,b,c,f] fun g=>bE g 0 fun h=>bE g 1 fun i=>bV .sub 3 h b fun j=>bV .sub 3 c h fun l=>bC .quo 3 e 8 fun m=>bV .lss 3 j l fun n=>cw n (bV .geq 3 j m fun o=>cf C 148 [a,b,h,d] fun _=>bA 3 h fun p=>I a p c d o i) (bV .geq 3 l m fun q=>bA 3 h fun r=>cf C 148 [a,r,c,d] fun _=>I a b h d q i)
@[simp]def f148xJ2(C:cT)(K:kT)(I:V6)(a b c d e f g h:vT):oT:=oC .gtr 3 b 0 fun i=>gJt i a fun j=>gJt i b fun l=>gOt i (binV P .sub 3 l (.int .i64 1)) fun m=>gIt i 28 j m fun n=>gLt i 3 n fun o=>gJt i a fun p=>gJt i h fun q=>gIt i 28 p q fun r=>gLt i 3 r fun t=>wt i (fun k s=>callF P C (fv 174) [o,t] k s) fun u=>gOt i (unV .not u) fun v=>oP i v fun w=>cw w (cf C 175 [a,b,c,h] fun x=>I a x c d e f) (f148xJ1 C K I a b c d g h)
@[simp]def f148xJ3(C:cT)(K:kT)(I:V6)(a b c d e f g h i:vT):oT:=wJt e f fun j=>bP e j fun l=>wJt l i fun m=>wCt l .eql 183 m 1 fun n=>bP l n fun o=>cw o (cf C 173 [a,b,c] fun p=>cw p (K .ret (ofL (f148xF0 a b c d e f))) (f148xJ2 C K I a b c d e f g h)) (f148xJ2 C K I a b c d e f g h)
@[simp]def f148xJ4(C:cT)(K:kT)(I:V6)(a b c d e f g:vT):oT:=cf C 171 [a,b,c] fun h=>bE h 0 fun i=>bE h 1 fun j=>bC .eql 183 j 2 fun l=>cw l (cf C 172 [a,b,c] fun _=>bC .sub 3 c 1 fun m=>bV .sub 3 i b fun n=>bV .sub 3 m n fun o=>f148xJ3 C K I a b c d e f g o (.int .i64 1)) (f148xJ3 C K I a b c d e f g i j)
@[simp]def f148xJ5(C:cT)(K:kT)(I:V6)(a b c d e f g:vT):oT:=bM e fun h=>cw h (cf C 170 [a,b,c] fun _=>bC .sub 3 d 1 fun i=>f148xJ4 C K I a b c i e f g) (f148xJ4 C K I a b c d e f g)
@[simp]def f148xJ6(C:cT)(K:kT)(I:V6)(a b c d e f g:vT):oT:=bC .eql 3 d 0 fun h=>cw h (cf C 169 [a,b,c] fun _=>K .ret (ofL (f148xF0 a b c d e f))) (f148xJ5 C K I a b c d e f g)
@[simp]def f148xB0(C:cT)(K:kT)(I:V6)(a b c d e f:vT):oT:=bV .sub 3 c b fun g=>bC .leq 3 g 12 fun h=>cw h (cf C 168 [a,b,c] fun _=>K .ret (ofL (f148xF0 a b c d e f))) (f148xJ6 C K I a b c d e f g)
def f148xloop0:=lp6 h148 f148xl0 0 f148xF0 f148xB0 (cp 148 [2,0,0])
def f148xK7(C:cT)(Q:pT)(s0:St):CPost:=kBlock 0 (kB 148 Q s0)
@[simp]theorem f148xE0xret_eq:(f148xK7 C Q s0) .ret (ofL (f148xF0 a b c d e f)) s=r0 Q s0 s:=by kernel_rfl
@[simp]def f148xS(C:cT)(Q:pT)(a b c d:vT)(s0:St):Prop:=(fun s0=>evC P C h148 f148xl0 0 (f148xK7 C Q s0) (ofL (f148xF0 a b c d (.bool true) (.bool true))) s0) s0
def f148xin:=en4 148 f148xS
def f150xl0:Code:=cp 150 [3,0,0]
def f150xF0:List Value:=un 3 (a::b::c::un 40 [])
@[simp]def f150xJ1(C:cT)(K:kT)(I:V3)(a b c d:vT):oT:=bN b fun e=>bF 233 2 e fun f=>bL 231 f fun g=>bI 231 g d fun h=>bL 199 h fun i=>I a i c
@[simp]def f150xB0(C:cT)(K:kT)(I:V3)(a b c:vT):oT:=cf C 177 [b] fun d=>bM d fun e=>cw e (bL 204 a fun f=>cf C 151 [b,f] fun g=>bE g 0 fun h=>bE g 1 fun _=>bA 3 h fun i=>bN b fun j=>bF 233 2 j fun l=>bL 231 l fun m=>bH 231 m fun n=>bV .lss 3 i n fun o=>cw o (bN b fun p=>bF 233 2 p fun q=>bL 231 q fun r=>bA 3 h fun t=>bI 231 r t fun u=>bL 199 u fun v=>f150xJ1 C K I a b v h) (f150xJ1 C K I a b c h)) (K (.exit 0) (ofL (f150xF0 a b c)))
def f150xloop0:=lp3 h150 f150xl0 0 f150xF0 f150xB0 (cp 150 [3,0,0,0])
def f150xK5:CPost:=kBlock 0 (kSeq (evC P C h150 (cp 150 [4]) 0 (kB 150 Q s0)) (kB 150 Q s0))
@[simp]theorem f150xE0x0xeq:(f150xK5 C Q s0) (.exit 0) (ofL (f150xF0 a b c)) s=r2 Q s0 b c s:=by kernel_rfl
@[simp]def f150xS(C:cT)(Q:pT)(a b:vT)(s0:St):Prop:=(nB b fun c=>cf C 153 [a] fun d=>bZ 199 d fun e=>cw e (r2 Q s0 (.pointer none) (.pointer none)) (evC P C h150 f150xl0 0 (f150xK5 C Q s0) (ofL (f150xF0 c d (.pointer none))))) s0
def f150xin:=en2 150 f150xS
def f151xl0:Code:=cp 151 [2,1,0,1,0]
def f151xF0:List Value:=a::undef::undef::b::c::d::un 13 (e::f::g::un 33 [])
@[simp]def f151xB0(C:cT)(K:kT)(I:V7)(a b c d e f g:vT):oT:=bV .lss 3 g f fun h=>cw h (bI 230 e g fun i=>bL 204 i fun j=>nZ 204 fun l=>sw 204 l j (bL 204 l fun m=>bL 204 b fun n=>cf C 178 [m,n] fun o=>bC .geq 3 o 0 fun p=>cw p (bC .eql 3 o 0 fun q=>sw 3 c g (sw 4 d q (K .ret (ofL (f151xF0 a b c d e f g))))) (bA 3 g fun r=>I a b c d e f r))) (K (.exit 0) (ofL (f151xF0 a b c d e f g)))
def f151xloop0:=lp7 h151 f151xl0 0 f151xF0 f151xB0 (cp 151 [2,1,0,1,0,0])
def f151xK4:CPost:=kSeq (evC P C h151 (cp 151 [3]) 0 (kB 151 Q s0)) (kB 151 Q s0)
def f151xK6:CPost:=kBlock 0 (kSeq (evC P C h151 (cR (cL (cR (cL (cp 151 [2]))))) 0 (f151xK4 C Q s0)) (f151xK4 C Q s0))
@[simp]theorem f151xE0x0xeq:(f151xK6 C Q s0) (.exit 0) (ofL (f151xF0 a b c d e f g)) s=(bN a fun h=>bF 233 0 h fun i=>bL 230 i fun j=>bH 230 j fun l=>sw 3 c l (sw 4 d (.bool false) fun s=>kEnd Q s0 (retV (consO (loadV (tAgg P 3) c s) (consO (loadV (tAgg P 4) d s) (some [])))) s)) s:=by kernel_rfl
@[simp]theorem f151xE0xret_eq:(f151xK6 C Q s0) .ret (ofL (f151xF0 a b c d e f g)) s=(fun s=>kEnd Q s0 (retV (consO (loadV (tAgg P 3) c s) (consO (loadV (tAgg P 4) d s) (some [])))) s) s:=by kernel_rfl
def f151xrf0xas:Code:=cp 151 [3,1,0,0]
def f151xrf0xbd:Code:=cp 151 [3,1,1]
def f151xrf0xps:Array Tmp:=#[45, 46]
def f151xrf0xL:List Value:=un 3 (a::b::c::un 49 [])
@[simp]def f151xrf0xRB(C:cT)(Q:pT)(b:Nat)(L:List vT)(a c d e f:vT):oT:=bL 204 f fun g=>bL 204 a fun h=>cf C 178 [g,h] fun i=>bC .leq 3 i 0 fun j=>cw j (bC .eql 3 i 0 fun m=>sw 3 c e (sw 4 d m fun s=>s.heap b=some (.loop L f151xrf0xps f151xrf0xas f151xrf0xbd .busy none)∧Q (.bool false) (s.put b (.loop L f151xrf0xps f151xrf0xas f151xrf0xbd .done (some .ret))))) (fun s=>s.heap b=some (.loop L f151xrf0xps f151xrf0xas f151xrf0xbd .busy none)∧Q (.bool true) (s.put b (.loop L f151xrf0xps f151xrf0xas f151xrf0xbd .ready none)))
@[simp]def f151xrf0xR(C:cT)(Q:pT)(b:Nat)(L:List vT)(a c d y0 y1:vT):oT:=nZ 204 fun e=>sw 204 e y1 fun s=>s.heap b=some (.loop L f151xrf0xps f151xrf0xas f151xrf0xbd .ready none)∧f151xrf0xRB C Q b L a c d y0 e (s.put b (.loop L f151xrf0xps f151xrf0xas f151xrf0xbd .busy none))
def f151xrf0xrange{a c d}:=rf2 h151 f151xrf0xas f151xrf0xbd 2 55 f151xrf0xps (f151xrf0xL a c d) (fun C Q b y0 y1=>f151xrf0xR C Q b (f151xrf0xL a c d) a c d y0 y1) rfl
def f151xK9:CPost:=kBlock 2 (kSeq (evC P C h151 (cp 151 [4]) 0 (kB 151 Q s0)) (kB 151 Q s0))
@[simp]theorem f151xrf0xE_normal_eq:(f151xK9 C Q s0) .normal (ofL (f151xrf0xL a b c)) s=(sw 3 b (.int .i64 0) (sw 4 c (.bool false) fun s=>kEnd Q s0 (retV (consO (loadV (tAgg P 3) b s) (consO (loadV (tAgg P 4) c s) (some [])))) s)) s:=by kernel_rfl
@[simp]theorem f151xrf0xE_ret_eq:(f151xK9 C Q s0) .ret (ofL (f151xrf0xL a b c)) s=(fun s=>kEnd Q s0 (retV (consO (loadV (tAgg P 3) b s) (consO (loadV (tAgg P 4) c s) (some [])))) s) s:=by kernel_rfl
@[simp]def f151xS(C:cT)(Q:pT)(a b:vT)(s0:St):Prop:=(nB b fun c=>nZ 3 fun d=>nZ 4 fun e=>bZ 199 a fun f=>cw f (sw 3 d (.int .i64 0) (sw 4 e (.bool false) fun s=>kEnd Q s0 (retV (consO (loadV (tAgg P 3) d s) (consO (loadV (tAgg P 4) e s) (some [])))) s)) (cf C 177 [a] fun g=>cw g (bN a fun h=>bF 233 0 h fun i=>bL 230 i fun j=>bH 230 j fun l=>evC P C h151 f151xl0 0 (f151xK6 C Q s0) (ofL (f151xF0 a c d e j l (.int .i64 0)))) (bN a fun m=>bF 233 0 m fun n=>bL 230 n fun o=>cf C 179 [o] fun p=>rfW P C 55 (f151xrf0xL c d e) f151xrf0xps f151xrf0xas f151xrf0xbd (evC P C h151 f151xrf0xas 2) (evC P C h151 f151xrf0xbd 2) (f151xK9 C Q s0) p))) s0
def f151xin:=en2 151 f151xS
def f152xl0:Code:=cp 152 [3,0,0]
def f152xF0:List Value:=un 6 (a::un 42 [])
@[simp]def f152xB0(C:cT)(K:kT)(I:V1)(a:vT):oT:=bN a fun b=>bF 233 2 b fun c=>bL 231 c fun d=>bH 231 d fun e=>bC .eql 3 e 1 fun f=>wJt f a fun g=>wOt f (nilV g) fun h=>wFt f 233 2 h fun i=>wLt f 231 i fun j=>wIt f 231 j (.int .i64 0) fun l=>wLt f 199 l fun m=>wVt f .neq 199 m (.pointer none) fun n=>bP f n fun o=>cw o (bN a fun p=>bF 233 2 p fun q=>bL 231 q fun r=>bI 231 r (.int .i64 0) fun t=>bL 199 t fun u=>I u) (K (.exit 0) (ofL (f152xF0 a)))
def f152xloop0:=lp1 h152 f152xl0 0 f152xF0 f152xB0 (cp 152 [3,0,0,0])
def f152xK5:CPost:=kBlock 0 (kSeq (evC P C h152 (cp 152 [4]) 0 (kB 152 Q s0)) (kB 152 Q s0))
@[simp]theorem f152xE0x0xeq:(f152xK5 C Q s0) (.exit 0) (ofL (f152xF0 a)) s=(cf C 177 [a] fun b=>wJt b a fun c=>wOt b (nilV c) fun d=>wFt b 233 0 d fun e=>wLt b 230 e fun f=>wHt b 230 f fun g=>wCt b .eql 3 g 0 fun h=>bP b h fun i=>cw i (r2 Q s0 (.pointer none) (.bool true)) (r2 Q s0 a (.bool true))) s:=by kernel_rfl
@[simp]def f152xS(C:cT)(Q:pT)(a b:vT)(s0:St):Prop:=(nB b fun c=>bL 204 c fun d=>cf C 180 [a,d] fun e=>bE e 0 fun f=>bE e 1 fun g=>bM g fun h=>cw h (r2 Q s0 a (.bool false)) (evC P C h152 f152xl0 0 (f152xK5 C Q s0) (ofL (f152xF0 f)))) s0
def f152xin:=en2 152 f152xS
@[simp]def f153xS(C:cT)(Q:pT)(a:vT)(s0:St):Prop:=(bZ 140 a fun b=>cw b (r1 Q s0 (.pointer none)) (bN a fun c=>bF 201 0 c fun d=>bL 199 d fun e=>r1 Q s0 e)) s0
def f153xin:=en1 153 f153xS
end
end Go.Zz
