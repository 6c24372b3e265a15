import Derived.Test.YtnghaapdoanabaaGreatDoorU0
set_option linter.all false
set_option maxRecDepth 20000
set_option linter.all false
namespace Go.Zz
open Go
noncomputable section
variable (C:cT)(K:kT)(Q:pT)(s0:St)(a b c d e f g h i j l m n o p q r t u v w x y z A B D E F G H J M N O R T U V W X Y Z a0 a1 a2 a3 a4 a5 a6 a7 a8 a9 b0 b1 b2 b3 b4 b5 b6 b7 b8 b9:vT)(s:St)
def f26xl0:Code:=cp 26 [2,1,0]
def f26xF0:List Value:=undef::undef::a::un 4 (b::un 6 (c::d::e::un 17 []))
@[simp]def f26xJ1(C:cT)(K:kT)(I:V5)(a b c d e:vT):oT:=bA 3 e fun f=>I a b c d f
@[simp]def f26xB0(C:cT)(K:kT)(I:V5)(a b c d e:vT):oT:=bV .lss 3 e d fun f=>cw f (bI 34 c e fun g=>bL 43 g fun h=>mapPutW (tMap P 117) b h (.bool true) fun _=>cf C 57 [a,h] fun i=>bE i 0 fun j=>bE i 1 fun l=>cw l (mapPutW (tMap P 117) b j (.bool true) fun _=>f26xJ1 C K I a b c d e) (f26xJ1 C K I a b c d e)) (K (.exit 0) (ofL (f26xF0 a b c d e)))
def f26xloop0:=lp5 h26 f26xl0 0 f26xF0 f26xB0 (cp 26 [2,1,0,0])
def f26xK5:CPost:=kBlock 0 (kSeq (evC P C h26 (cp 26 [3]) 0 (kB 26 Q s0)) (kB 26 Q s0))
@[simp]theorem f26xE0x0xeq:(f26xK5 C Q s0) (.exit 0) (ofL (f26xF0 a b c d e)) s=(cf C 58 [b] fun f=>r1 Q s0 f) s:=by kernel_rfl
@[simp]def f26xS(C:cT)(Q:pT)(a b c:vT)(s0:St):Prop:=(cf C 56 [a] fun d=>bH 34 b fun e=>evC P C h26 f26xl0 0 (f26xK5 C Q s0) (ofL (f26xF0 c d b e (.int .i64 0)))) s0
def f26xin:=en3 26 f26xS
@[simp]def f27xS(C:cT)(Q:pT)(a b:vT)(s0:St):Prop:=(bZ 25 a fun c=>cw c (r1 Q s0 (.slice none 0 0)) (oN a fun d=>oF 83 4 d fun e=>oL 78 e fun f=>oN a fun g=>oF 83 6 g fun h=>oL 80 h fun i=>oO (mkFn 52 #[a] #[]) fun j=>cf C 28 [a,b] fun l=>kL 78 e f (kL 80 h i (cf C 59 [f,i,l,j] fun m=>r1 Q s0 m)))) s0
def f27xin:=en2 27 f27xS
@[simp]def f28xS(C:cT)(Q:pT)(a b:vT)(s0:St):Prop:=(bZ 25 a fun c=>cw c (r1 Q s0 (.slice none 0 0)) (cf C 60 [a] fun d=>cf C 61 [d,b] fun e=>r1 Q s0 e)) s0
def f28xin:=en2 28 f28xS
@[simp]def f29xS(C:cT)(Q:pT)(a:vT)(s0:St):Prop:=(nB a fun b=>bO (mkFn 62 #[] #[b]) fun c=>r1 Q s0 c) s0
def f29xin:=en1 29 f29xS
@[simp]def f30xS(C:cT)(Q:pT)(a b:vT)(s0:St):Prop:=(cf C 63 [a,b] fun c=>bM c fun d=>cw d (r2 Q s0 (.int .u64 0) (.bool false)) (bN a fun e=>bF 130 0 e fun f=>bI 128 f b fun g=>bF 127 3 g fun h=>bL 43 h fun i=>r2 Q s0 i (.bool true))) s0
def f30xin:=en2 30 f30xS
@[simp]def f31xS(C:cT)(Q:pT)(a:vT)(s0:St):Prop:=(nB a fun b=>bO (mkFn 64 #[] #[b]) fun c=>r1 Q s0 c) s0
def f31xin:=en1 31 f31xS
def f32xl0:Code:=cp 32 [3,1,0]
def f32xF0:List Value:=a::b::un 3 (c::d::un 35 [])
@[simp]def f32xJ1(C:cT)(K:kT)(I:V4)(a b c d:vT):oT:=bA 3 d fun e=>I a b c e
@[simp]def f32xB0(C:cT)(K:kT)(I:V4)(a b c d:vT):oT:=bH 34 a fun e=>bV .lss 3 d e fun f=>cw f (bI 34 a d fun g=>bL 43 g fun h=>callF P C b [h] fun i=>bM i fun j=>cw j (bI 34 a c fun l=>sw 43 l h (bA 3 c fun m=>f32xJ1 C K I a b m d)) (f32xJ1 C K I a b c d)) (K (.exit 0) (ofL (f32xF0 a b c d)))
def f32xloop0:=lp4 h32 f32xl0 0 f32xF0 f32xB0 (cp 32 [3,1,0,0])
def f32xK5:CPost:=kBlock 0 (kSeq (evC P C h32 (cp 32 [4]) 0 (kB 32 Q s0)) (kB 32 Q s0))
@[simp]theorem f32xE0x0xeq:(f32xK5 C Q s0) (.exit 0) (ofL (f32xF0 a b c d)) s=(bS (fun s=>slcV P 34 a (some c) none none s) fun e=>clearW P 34 e fun _=>bS (fun s=>slcV P 34 a none (some c) none s) fun f=>r1 Q s0 f) s:=by kernel_rfl
@[simp]def f32xS(C:cT)(Q:pT)(a b:vT)(s0:St):Prop:=(cf C 65 [a,b] fun c=>bV .eql 3 c (.int .i64 (-1)) fun d=>cw d (r1 Q s0 a) (bA 3 c fun e=>evC P C h32 f32xl0 0 (f32xK5 C Q s0) (ofL (f32xF0 a b c e)))) s0
def f32xin:=en2 32 f32xS
@[simp]def f33xS(C:cT)(Q:pT)(a b:vT)(s0:St):Prop:=(bL 25 b fun c=>bN c fun d=>bF 83 3 d fun e=>bL 77 e fun f=>bS (fun s=>lookV (tMap P 77) f a true s) fun g=>bE g 0 fun h=>bE g 1 fun i=>nZ 49 fun j=>sw 49 j h (bM i fun l=>r1 Q s0 l)) s0
def f33xin:=en2 33 f33xS
@[simp]def f34xS(C:cT)(Q:pT)(a:vT)(s0:St):Prop:=(bH 34 a fun b=>bR 3 138 b fun c=>cf C 67 [c] fun d=>cf C 66 [a,(.int .i64 0),b,d] fun _=>r0 Q s0) s0
def f34xin:=en1 34 f34xS
def f35xl0:Code:=cp 35 [2,1,0]
def f35xF0:List Value:=a::undef::b::c::un 57 []
def f35xl1:Code:=cp 35 [2,1,0,1,0,1,1,1,0]
def f35xF1:List Value:=a::undef::undef::b::c::d::un 55 []
@[simp]def f35xJ1(C:cT)(K:kT)(I:V4)(a b c d:vT):oT:=bA 3 d fun e=>I a b c e
@[simp]def f35xB1(C:cT)(K:kT)(I:V4)(a b c d:vT):oT:=bH 34 c fun e=>bV .lss 3 d e fun f=>cw f (oI 34 c d fun g=>oL 43 g fun h=>oC .sub 3 d 1 fun i=>oI 34 c i fun j=>oL 43 j fun l=>oV .neq 43 h l fun m=>cw m (bI 34 c d fun n=>bL 43 n fun o=>bI 34 a b fun p=>sw 43 p o (bA 3 b fun q=>f35xJ1 C K I a q c d)) (f35xJ1 C K I a b c d)) (K (.exit 2) (ofL (f35xF1 a b c d)))
def f35xloop1:=lp4 h35 f35xl1 2 f35xF1 f35xB1 (cp 35 [2,1,0,1,0,1,1,1,0,0])
def f35xK5(C:cT)(K:kT)(I:V3):CPost:=kBlock 1 (kSeq (evC P C h35 (cR (cR (cL (cL (cR (cL (cp 35 [2]))))))) 0 (kLoop h35 0 (fun l s=>I (l.getD 0 undef) (l.getD 2 undef) (l.getD 3 undef) s) K)) (kLoop h35 0 (fun l s=>I (l.getD 0 undef) (l.getD 2 undef) (l.getD 3 undef) s) K))
def f35xK7(C:cT)(K:kT)(I:V3):CPost:=kBlock 2 (kSeq (evC P C h35 (cR (cR (cL (cR (cL (cL (cR (cL (cL (cR (cL (cp 35 [2])))))))))))) 1 (f35xK5 C K I)) (f35xK5 C K I))
@[simp]theorem f35xE1x2xeq(I:V3):(f35xK7 C K I) (.exit 2) (ofL (f35xF1 a c d e)) s=(bS (fun s=>slcV P 34 a (some c) none none s) fun f=>clearW P 34 f fun _=>bS (fun s=>slcV P 34 a none (some c) none s) fun g=>K .ret (ofL (f35xF0 a g c))) s:=by kernel_rfl
@[simp]def f35xB0(C:cT)(K:kT)(I:V3)(a b c:vT):oT:=bH 34 a fun d=>bV .lss 3 c d fun e=>cw e (oI 34 a c fun f=>oL 43 f fun g=>oC .sub 3 c 1 fun h=>oI 34 a h fun i=>oL 43 i fun j=>oV .eql 43 g j fun l=>cw l (bS (fun s=>slcV P 34 a (some c) none none s) fun m=>evC P C h35 f35xl1 2 (f35xK7 C K I) (ofL (f35xF1 a c m (.int .i64 1)))) (bA 3 c fun n=>I a b n)) (K (.exit 0) (ofL (f35xF0 a b c)))
def f35xloop0:=lp3 h35 f35xl0 0 f35xF0 f35xB0 (cp 35 [2,1,0,0])
def f35xK12:CPost:=kBlock 0 (kSeq (evC P C h35 (cp 35 [3]) 0 (kB 35 Q s0)) (kB 35 Q s0))
@[simp]theorem f35xE0x0xeq:(f35xK12 C Q s0) (.exit 0) (ofL (f35xF0 a b c)) s=r1 Q s0 a s:=by kernel_rfl
@[simp]theorem f35xE0xret_eq:(f35xK12 C Q s0) .ret (ofL (f35xF0 a b c)) s=r1 Q s0 b s:=by kernel_rfl
@[simp]def f35xS(C:cT)(Q:pT)(a:vT)(s0:St):Prop:=(bH 34 a fun b=>bC .lss 3 b 2 fun c=>cw c (r1 Q s0 a) (evC P C h35 f35xl0 0 (f35xK12 C Q s0) (ofL (f35xF0 a (.slice none 0 0) (.int .i64 1))))) s0
def f35xin:=en1 35 f35xS
@[simp]def f36xS(C:cT)(Q:pT)(a:vT)(s0:St):Prop:=(nB a fun b=>nZ 49 fun c=>bF 49 8 b fun d=>bL 47 d fun e=>cf C 68 [e] fun f=>bF 49 8 b fun g=>sw 47 g f (bL 49 b fun h=>sw 49 c h fun s=>kEnd Q s0 (retV (consO (loadV (tAgg P 49) c s) (some []))) s)) s0
def f36xin:=en1 36 f36xS
@[simp]def f37xS(C:cT)(Q:pT)(a:vT)(s0:St):Prop:=(cf C 69 [a] fun b=>bO (buildV P 143 #[(0,b)]) fun c=>nB c fun d=>r1 Q s0 d) s0
def f37xin:=en1 37 f37xS
@[simp]def f38xS(C:cT)(Q:pT)(a:vT)(s0:St):Prop:=(bZ 79 a fun b=>cw b (cf C 49 [] fun c=>r1 Q s0 c) (bN a fun d=>bF 149 0 d fun e=>bL 144 e fun f=>cf C 70 [f] fun g=>bO (buildV P 149 #[(0,g)]) fun h=>nB h fun i=>r1 Q s0 i)) s0
def f38xin:=en1 38 f38xS
@[simp]def f39xS(C:cT)(Q:pT)(a:vT)(s0:St):Prop:=(bZ 80 a fun b=>cw b (r1 Q s0 (.pointer none)) (bN a fun c=>bL 130 c fun d=>nZ 130 fun e=>sw 130 e d (r1 Q s0 e))) s0
def f39xin:=en1 39 f39xS
@[simp]def f40xS(C:cT)(Q:pT)(a:vT)(s0:St):Prop:=(bZ 81 a fun b=>cw b (r1 Q s0 (.pointer none)) (bN a fun c=>bF 134 0 c fun d=>bL 132 d fun e=>cf C 71 [e] fun f=>bO (buildV P 134 #[(0,f)]) fun g=>nB g fun h=>r1 Q s0 h)) s0
def f40xin:=en1 40 f40xS
@[simp]def f41xJ1:oT:=wLt b 49 a fun d=>wLt b 49 c fun e=>wt b (fun k s=>callF P C (fv 73) [d,e] k s) fun f=>bP b f fun g=>wFt g 49 1 a fun h=>wLt g 43 h fun i=>wVt g .geq 43 i (.int .u64 1) fun j=>bP g j fun l=>wFt l 49 1 a fun m=>wLt l 43 m fun n=>wVt l .leq 43 n (.int .u64 65535) fun o=>bP l o fun p=>wFt p 49 2 a fun q=>wLt p 3 q fun r=>wt p (fun k s=>callF P C (fv 74) [r,(.int .i64 1073741824)] k s) fun t=>bP p t fun u=>wLt u 49 a fun v=>wt u (fun k s=>callF P C (fv 75) [v] k s) fun w=>bP u w fun x=>r1 Q s0 x
@[simp]def f41xJ2:oT:=bF 152 3 b fun e=>bL 4 e fun f=>cw f (bF 49 8 a fun g=>bL 47 g fun h=>bF 49 8 d fun i=>sw 47 i h (f41xJ1 C Q s0 a c d)) (f41xJ1 C Q s0 a c d)
@[simp]def f41xJ3:oT:=bF 152 2 b fun e=>bL 4 e fun f=>cw f (oF 49 5 a fun g=>oL 3 g fun h=>oF 49 6 a fun i=>oL 3 i fun j=>oF 49 7 a fun l=>oL 3 l fun m=>oF 49 5 d fun n=>sw 3 n h (kL 3 i j (kL 3 l m (oF 49 6 d fun o=>sw 3 o j (kL 3 l m (oF 49 7 d fun p=>sw 3 p m (f41xJ2 C Q s0 a b c d))))))) (f41xJ2 C Q s0 a b c d)
@[simp]def f41xJ4:oT:=bF 152 1 b fun e=>bL 4 e fun f=>cw f (bF 49 4 a fun g=>bL 43 g fun h=>bF 49 4 d fun i=>sw 43 i h (f41xJ3 C Q s0 a b c d)) (f41xJ3 C Q s0 a b c d)
@[simp]def f41xS(C:cT)(Q:pT)(a:vT)(s0:St):Prop:=(nB a fun b=>bF 49 0 b fun c=>bL 3 c fun d=>cf C 72 [d] fun e=>bE e 0 fun f=>bE e 1 fun g=>nZ 152 fun h=>sw 152 h f (bF 49 0 b fun i=>bL 3 i fun j=>bF 49 1 b fun l=>bL 43 l fun m=>bF 49 2 b fun n=>bL 3 n fun o=>bO (buildV P 49 #[(0,j),(1,m),(2,o)]) fun p=>nZ 49 fun q=>sw 49 q p (bF 152 0 h fun r=>bL 4 r fun t=>cw t (bF 49 3 b fun u=>bL 46 u fun v=>bF 49 3 q fun w=>sw 46 w v (f41xJ4 C Q s0 b h g q)) (f41xJ4 C Q s0 b h g q)))) s0
def f41xin:=en1 41 f41xS
@[simp]def f42xS(C:cT)(Q:pT)(a:vT)(s0:St):Prop:=(nB a fun b=>bF 49 0 b fun c=>bL 3 c fun d=>bC .eql 3 d 1 fun e=>wFf e 49 0 b fun f=>wLf e 3 f fun g=>wCf e .eql 3 g 2 fun h=>bQ e h fun i=>wFf i 49 0 b fun j=>wLf i 3 j fun l=>wCf i .eql 3 l 3 fun m=>bQ i m fun n=>r1 Q s0 n) s0
def f42xin:=en1 42 f42xS
def f43xl0:Code:=cp 43 [1,1,0]
def f43xF0:List Value:=a::b::un 4 (c::un 13 (d::e::f::un 15 []))
@[simp]def f43xB0(C:cT)(K:kT)(I:V6)(a b c d e f:vT):oT:=bV .lss 3 f e fun g=>cw g (bI 157 d f fun h=>bL 46 h fun i=>nZ 46 fun j=>sw 46 j i (oL 46 j fun l=>cf C 14 [a] fun m=>kL 46 j l (cf C 44 [a,b,l] fun n=>cf C 16 [m,n] fun o=>bC .eql 41 o 0 fun p=>cw p (bL 46 j fun q=>sw 46 c q (K .ret (ofL (f43xF0 a b c d e f)))) (bA 3 f fun r=>I a b c d e r)))) (K (.exit 0) (ofL (f43xF0 a b c d e f)))
def f43xloop0:=lp6 h43 f43xl0 0 f43xF0 f43xB0 (cp 43 [1,1,0,0])
def f43xK5:CPost:=kBlock 0 (kSeq (evC P C h43 (cp 43 [2]) 0 (kB 43 Q s0)) (kB 43 Q s0))
@[simp]theorem f43xE0x0xeq:(f43xK5 C Q s0) (.exit 0) (ofL (f43xF0 a b c d e f)) s=(bO (buildV P 46 #[]) fun g=>sw 46 c g fun s=>kEnd Q s0 (retV (consO (loadV (tAgg P 46) c s) (some []))) s) s:=by kernel_rfl
@[simp]theorem f43xE0xret_eq:(f43xK5 C Q s0) .ret (ofL (f43xF0 a b c d e f)) s=(fun s=>kEnd Q s0 (retV (consO (loadV (tAgg P 46) c s) (some []))) s) s:=by kernel_rfl
@[simp]def f43xS(C:cT)(Q:pT)(a b c:vT)(s0:St):Prop:=(nB c fun d=>nZ 46 fun e=>bF 46 1 d fun f=>bL 3 f fun g=>bF 46 2 d fun h=>bL 3 h fun i=>bA 3 i fun j=>bO (buildV P 46 #[(1,g),(2,j)]) fun l=>bF 46 1 d fun m=>bL 3 m fun n=>bA 3 n fun o=>bO (buildV P 46 #[(1,o)]) fun p=>newW (bslN (tSlice P 157) 2 #[(0,l),(1,p)]) fun q=>bH 157 q fun r=>evC P C h43 f43xl0 0 (f43xK5 C Q s0) (ofL (f43xF0 a b e q r (.int .i64 0)))) s0
def f43xin:=en3 43 f43xS
@[simp]def f44xS(C:cT)(Q:pT)(a b c:vT)(s0:St):Prop:=(nB c fun d=>nZ 49 fun e=>oL 46 d fun f=>mw (mslN (tSlice P 47) (.int .i64 32) (.int .i64 32)) (cf C 17 [a] fun g=>kL 46 d f (oV .add 43 g (.int .u64 1) fun h=>newW (mslN (tSlice P 47) (.int .i64 32) (.int .i64 32)) fun i=>bO (buildV P 49 #[(0,(.int .i64 1)),(1,h),(2,b),(3,f),(8,i)]) fun j=>sw 49 e j fun s=>kEnd Q s0 (retV (consO (loadV (tAgg P 49) e s) (some []))) s))) s0
def f44xin:=en3 44 f44xS
def f47xl0:Code:=cp 47 [3,1,0]
def f47xF0:List Value:=undef::undef::a::b::c::un 7 (d::e::f::un 45 [])
@[simp]def f47xJ1(C:cT)(K:kT)(I:V6)(a b c d e f:vT):oT:=bA 3 f fun g=>I a b c d e g
@[simp]def f47xJ2(C:cT)(K:kT)(I:V6)(a b c d e f g:vT):oT:=bF 76 0 c fun h=>bL 74 h fun i=>bL 170 d fun j=>newW (bslN (tSlice P 74) 1 #[(0,j)]) fun l=>apdW P (tSlice P 74) 74 i l fun m=>bF 76 0 c fun n=>sw 74 n m (f47xJ1 C K I a b c e f g)
@[simp]def f47xB0(C:cT)(K:kT)(I:V6)(a b c d e f:vT):oT:=bV .lss 3 f e fun g=>cw g (bI 22 d f fun h=>bL 72 h fun i=>nZ 72 fun j=>sw 72 j i (bL 72 j fun l=>cf C 83 [l] fun m=>bM m fun n=>cw n (bO (buildV P 76 #[]) fun o=>sw 76 a o (K .ret (ofL (f47xF0 a (.int .i64 3) c d e f)))) (bF 72 2 j fun p=>bL 3 p fun q=>bO (buildV P 170 #[(1,q)]) fun r=>nZ 170 fun t=>sw 170 t r (bF 72 0 j fun u=>bL 3 u fun v=>bC .eql 3 v 1 fun w=>cw w (bF 170 0 t fun x=>sw 168 x (fv 84) (f47xJ2 C K I a b c t d e f)) (bC .eql 3 v 2 fun y=>cw y (bO (mkFn 85 #[] #[j]) fun z=>bF 170 0 t fun A=>sw 168 A z (f47xJ2 C K I a b c t d e f)) (bC .eql 3 v 3 fun B=>cw B (bO (mkFn 87 #[] #[j]) fun D=>bF 170 0 t fun E=>sw 168 E D (f47xJ2 C K I a b c t d e f)) (bF 76 2 c fun F=>bL 4 F fun G=>bM G fun H=>wFf H 72 2 j fun J=>wLf H 3 J fun M=>wFf H 76 1 c fun N=>wLf H 3 N fun O=>wVf H .lss 3 M O fun R=>bQ H R fun T=>cw T (bF 72 2 j fun U=>bL 3 U fun V=>bF 76 1 c fun W=>sw 3 W V (bF 76 2 c fun X=>sw 4 X (.bool true) (f47xJ1 C K I a b c d e f))) (f47xJ1 C K I a b c d e f)))))))) (K (.exit 0) (ofL (f47xF0 a b c d e f)))
def f47xloop0:=lp6 h47 f47xl0 0 f47xF0 f47xB0 (cp 47 [3,1,0,0])
def f47xK7:CPost:=kBlock 0 (kSeq (evC P C h47 (cp 47 [4]) 0 (kB 47 Q s0)) (kB 47 Q s0))
@[simp]theorem f47xE0x0xeq:(f47xK7 C Q s0) (.exit 0) (ofL (f47xF0 a b c d e f)) s=(bL 76 c fun g=>sw 76 a g fun s=>kEnd Q s0 (retV (consO (loadV (tAgg P 76) a s) (consO (some (.int .i64 0)) (some [])))) s) s:=by kernel_rfl
@[simp]theorem f47xE0xret_eq:(f47xK7 C Q s0) .ret (ofL (f47xF0 a b c d e f)) s=(fun s=>kEnd Q s0 (retV (consO (loadV (tAgg P 76) a s) (consO (some b) (some [])))) s) s:=by kernel_rfl
@[simp]def f47xS(C:cT)(Q:pT)(a:vT)(s0:St):Prop:=(nZ 76 fun b=>bH 22 a fun c=>bC .gtr 3 c 16 fun d=>cw d (bO (buildV P 76 #[]) fun e=>sw 76 b e fun s=>kEnd Q s0 (retV (consO (loadV (tAgg P 76) b s) (consO (some (.int .i64 6)) (some [])))) s) (nZ 76 fun f=>bH 22 a fun g=>evC P C h47 f47xl0 0 (f47xK7 C Q s0) (ofL (f47xF0 b (.int .i64 0) f a g (.int .i64 0))))) s0
def f47xin:=en1 47 f47xS
@[simp]def f48xS(C:cT)(Q:pT)(s0:St):Prop:=(cf C 89 [] fun a=>bO (buildV P 143 #[(0,a)]) fun b=>nB b fun c=>r1 Q s0 c) s0
def f48xin:=en0 48 f48xS
@[simp]def f49xS(C:cT)(Q:pT)(s0:St):Prop:=(bO (buildV P 149 #[]) fun a=>nB a fun b=>r1 Q s0 b) s0
def f49xin:=en0 49 f49xS
@[simp]def f50xS(C:cT)(Q:pT)(s0:St):Prop:=(bO (buildV P 130 #[]) fun a=>nB a fun b=>r1 Q s0 b) s0
def f50xin:=en0 50 f50xS
@[simp]def f51xS(C:cT)(Q:pT)(s0:St):Prop:=(bO (buildV P 134 #[]) fun a=>nB a fun b=>r1 Q s0 b) s0
def f51xin:=en0 51 f51xS
@[simp]def f52xS(C:cT)(Q:pT)(a b:vT)(s0:St):Prop:=(nZ 49 fun c=>bZ 25 a fun d=>cw d (bO (buildV P 49 #[]) fun e=>sw 49 c e fun s=>kEnd Q s0 (retV (consO (loadV (tAgg P 49) c s) (consO (some (.bool false)) (some [])))) s) (bN a fun f=>bF 83 3 f fun g=>bL 77 g fun h=>bS (fun s=>lookV (tMap P 77) h b true s) fun i=>bE i 0 fun j=>bE i 1 fun l=>nZ 49 fun m=>sw 49 m j (bL 49 m fun n=>cf C 36 [n] fun o=>sw 49 c o fun s=>kEnd Q s0 (retV (consO (loadV (tAgg P 49) c s) (consO (some l) (some [])))) s))) s0
def f52xin:=en2 52 f52xS
@[simp]def f53xS(C:cT)(Q:pT)(a b:vT)(s0:St):Prop:=(bZ 25 a fun c=>cw c (r1 Q s0 (.int .i64 1)) (bN a fun d=>bF 83 5 d fun e=>bL 79 e fun f=>cf C 90 [f,b] fun g=>r1 Q s0 g)) s0
def f53xin:=en2 53 f53xS
def f54xrf0xas:Code:=cp 54 [5,1,1,0,0]
def f54xrf0xbd:Code:=cp 54 [5,1,1,1]
def f54xrf0xps:Array Tmp:=#[62]
def f54xrf0xL:List Value:=undef::undef::a::b::un 76 []
@[simp]def f54xrf0xRB(C:cT)(Q:pT)(b:Nat)(L:List vT)(a c d:vT):oT:=bF 95 1 d fun e=>bL 43 e fun f=>bL 43 c fun g=>bV .eql 43 f g fun h=>cw h (oL 25 a fun i=>oN i fun j=>oF 83 7 j fun m=>oL 81 m fun n=>oF 95 0 d fun o=>oF 93 0 o fun p=>oL 43 p fun q=>cf C 94 [n,q] fun _=>fun s=>s.heap b=some (.loop L f54xrf0xps f54xrf0xas f54xrf0xbd .busy none)∧Q (.bool true) (s.put b (.loop L f54xrf0xps f54xrf0xas f54xrf0xbd .ready none))) (fun s=>s.heap b=some (.loop L f54xrf0xps f54xrf0xas f54xrf0xbd .busy none)∧Q (.bool true) (s.put b (.loop L f54xrf0xps f54xrf0xas f54xrf0xbd .ready none)))
@[simp]def f54xrf0xR(C:cT)(Q:pT)(b:Nat)(L:List vT)(a c y0:vT):oT:=nZ 95 fun d=>sw 95 d y0 fun s=>s.heap b=some (.loop L f54xrf0xps f54xrf0xas f54xrf0xbd .ready none)∧f54xrf0xRB C Q b L a c d (s.put b (.loop L f54xrf0xps f54xrf0xas f54xrf0xbd .busy none))
def f54xrf0xrange{a c}:=rf1 h54 f54xrf0xas f54xrf0xbd 1 80 f54xrf0xps (f54xrf0xL a c) (fun C Q b y=>f54xrf0xR C Q b (f54xrf0xL a c) a c y) rfl
@[simp]def f54xJ1(C:cT)(Q:pT)(s0:St)(a b:vT):oT:=oL 25 a fun c=>oN c fun d=>oF 83 3 d fun e=>oL 77 e fun f=>oL 43 b fun g=>delW (tMap P 77) f g fun _=>r1 Q s0 (.int .i64 0)
def f54xK3:CPost:=kBlock 1 (kSeq (evC P C h54 (cp 54 [6]) 0 (kB 54 Q s0)) (kB 54 Q s0))
@[simp]theorem f54xrf0xE_normal_eq:(f54xK3 C Q s0) .normal (ofL (f54xrf0xL a b)) s=f54xJ1 C Q s0 a b s:=by kernel_rfl
@[simp]def f54xJ4:oT:=bF 49 0 c fun d=>bL 3 d fun e=>bC .eql 3 e 6 fun f=>cw f (bL 25 a fun g=>bN g fun h=>bF 83 7 h fun i=>bL 81 i fun j=>cf C 40 [j] fun l=>cf C 31 [l] fun m=>rfW P C 80 (f54xrf0xL a b) f54xrf0xps f54xrf0xas f54xrf0xbd (evC P C h54 f54xrf0xas 1) (evC P C h54 f54xrf0xbd 1) (f54xK3 C Q s0) m) (f54xJ1 C Q s0 a b)
@[simp]def f54xJ5:oT:=bL 49 c fun d=>cf C 42 [d] fun e=>cw e (oL 25 a fun f=>oN f fun g=>oF 83 4 g fun h=>oL 78 h fun i=>oF 49 3 c fun j=>oL 46 j fun l=>oL 43 b fun m=>cf C 92 [i,l,m] fun _=>oL 25 a fun n=>oN n fun o=>oF 83 5 o fun p=>oL 79 p fun q=>oL 43 b fun r=>cf C 90 [q,r] fun _=>oL 25 a fun t=>oN t fun u=>oF 83 5 u fun v=>oL 79 v fun w=>oL 43 b fun x=>cf C 93 [w,x] fun _=>f54xJ4 C Q s0 a b c) (f54xJ4 C Q s0 a b c)
@[simp]def f54xJ6:oT:=oL 25 a fun c=>oN c fun d=>oF 83 3 d fun e=>oL 77 e fun f=>oL 43 b fun g=>oS (fun s=>lookV (tMap P 77) f g true s) fun h=>oE h 0 fun i=>oE h 1 fun j=>mw (zeroN (tZero P 49)) (nZ 49 fun l=>sw 49 l i (bM j fun m=>cw m (r1 Q s0 (.int .i64 4)) (oL 25 a fun n=>oL 25 a fun o=>oN o fun p=>oF 83 8 p fun q=>oL 3 q fun r=>oL 43 b fun t=>cf C 12 [n,r] fun u=>kL 43 b t (cf C 91 [u,t] fun v=>cw v (r1 Q s0 (.int .i64 12)) (f54xJ5 C Q s0 a b l)))))
@[simp]def f54xS(C:cT)(Q:pT)(a b:vT)(s0:St):Prop:=(nB a fun c=>nB b fun d=>bL 25 c fun e=>bZ 25 e fun f=>cw f (r1 Q s0 (.int .i64 1)) (f54xJ6 C Q s0 c d)) s0
def f54xin:=en2 54 f54xS
@[simp]def f55xS(C:cT)(Q:pT)(a b:vT)(s0:St):Prop:=(bH 34 a fun c=>bC .eql 3 c 0 fun d=>cw d (r1 Q s0 (.int .u64 0)) (bH 34 a fun e=>bR 3 43 e fun f=>bV .rem 43 b f fun g=>bI 34 a g fun h=>bL 43 h fun i=>r1 Q s0 i)) s0
def f55xin:=en2 55 f55xS
def f56xl0:Code:=cp 56 [2,1,0]
def f56xF0:List Value:=un 3 (a::un 3 (b::c::d::un 7 []))
@[simp]def f56xB0(C:cT)(K:kT)(I:V4)(a b c d:vT):oT:=bV .lss 3 d c fun e=>cw e (bI 34 b d fun f=>bL 43 f fun g=>mapPutW (tMap P 117) a g (.bool true) fun _=>bA 3 d fun h=>I a b c h) (K (.exit 0) (ofL (f56xF0 a b c d)))
def f56xloop0:=lp4 h56 f56xl0 0 f56xF0 f56xB0 (cp 56 [2,1,0,0])
def f56xK5:CPost:=kBlock 0 (kSeq (evC P C h56 (cp 56 [3]) 0 (kB 56 Q s0)) (kB 56 Q s0))
@[simp]theorem f56xE0x0xeq:(f56xK5 C Q s0) (.exit 0) (ofL (f56xF0 a b c d)) s=r1 Q s0 a s:=by kernel_rfl
@[simp]def f56xS(C:cT)(Q:pT)(a:vT)(s0:St):Prop:=(newW (mapN (tIsMap P 117) none) fun b=>bH 34 a fun c=>evC P C h56 f56xl0 0 (f56xK5 C Q s0) (ofL (f56xF0 b a c (.int .i64 0)))) s0
def f56xin:=en1 56 f56xS
@[simp]def f57xJ1(C:cT)(Q:pT)(s0:St)(a b:vT):oT:=bN a fun c=>bF 149 0 c fun d=>bL 144 d fun e=>bI 144 e b fun f=>bF 147 0 f fun g=>bL 43 g fun h=>r2 Q s0 h (.bool true)
@[simp]def f57xJ2:oT:=cf C 96 [a] fun c=>bV .geq 3 b c fun d=>cw d (r2 Q s0 (.int .u64 0) (.bool false)) (f57xJ1 C Q s0 a b)
@[simp]def f57xS(C:cT)(Q:pT)(a b:vT)(s0:St):Prop:=(cf C 95 [a,b] fun c=>bE c 0 fun d=>bE c 1 fun e=>cw e (bA 3 d fun f=>f57xJ2 C Q s0 a f) (f57xJ2 C Q s0 a d)) s0
def f57xin:=en2 57 f57xS
@[simp]def f58xS(C:cT)(Q:pT)(a:vT)(s0:St):Prop:=(cf C 98 [a] fun b=>cf C 97 [b] fun c=>r1 Q s0 c) s0
def f58xin:=en1 58 f58xS
@[simp]def f59xS(C:cT)(Q:pT)(a b c d:vT)(s0:St):Prop:=(cf C 100 [a,b,c] fun e=>cf C 99 [d,e] fun f=>r1 Q s0 f) s0
def f59xin:=en4 59 f59xS
@[simp]def f60xS(C:cT)(Q:pT)(a:vT)(s0:St):Prop:=(nZ 112 fun b=>oN a fun c=>oF 83 5 c fun d=>oL 79 d fun e=>oN a fun f=>oF 83 2 f fun g=>oL 76 g fun h=>oN a fun i=>oF 83 7 i fun j=>oL 81 j fun l=>oN a fun m=>oF 83 6 m fun n=>oL 80 n fun o=>oO (buildV P 112 #[(0,e),(1,h),(2,l),(3,o)]) fun p=>sw 112 b p fun s=>kEnd Q s0 (retV (consO (loadV (tAgg P 112) b s) (some []))) s) s0
def f60xin:=en1 60 f60xS
def f61xrf0xas:Code:=cp 61 [3,1,0,0]
def f61xrf0xbd:Code:=cp 61 [3,1,1]
def f61xrf0xps:Array Tmp:=#[13, 14]
def f61xrf0xL:List Value:=un 3 (a::undef::b::c::un 17 [])
@[simp]def f61xrf0xRB(C:cT)(Q:pT)(b:Nat)(L:List vT)(a c d e:vT):oT:=bL 171 c fun f=>bL 3 a fun g=>callF P C f [e,g] fun h=>cw h (bL 34 d fun i=>newW (bslN (tSlice P 34) 1 #[(0,e)]) fun j=>apdW P (tSlice P 34) 34 i j fun m=>sw 34 d m fun s=>s.heap b=some (.loop L f61xrf0xps f61xrf0xas f61xrf0xbd .busy none)∧Q (.bool true) (s.put b (.loop L f61xrf0xps f61xrf0xas f61xrf0xbd .ready none))) (fun s=>s.heap b=some (.loop L f61xrf0xps f61xrf0xas f61xrf0xbd .busy none)∧Q (.bool true) (s.put b (.loop L f61xrf0xps f61xrf0xas f61xrf0xbd .ready none)))
@[simp]def f61xrf0xR(C:cT)(Q:pT)(b:Nat)(L:List vT)(a c d y0 y1:vT):oT:=fun s=>s.heap b=some (.loop L f61xrf0xps f61xrf0xas f61xrf0xbd .ready none)∧f61xrf0xRB C Q b L a c d y0 (s.put b (.loop L f61xrf0xps f61xrf0xas f61xrf0xbd .busy none))
def f61xrf0xrange{a c d}:=rf2 h61 f61xrf0xas f61xrf0xbd 0 24 f61xrf0xps (f61xrf0xL a c d) (fun C Q b y0 y1=>f61xrf0xR C Q b (f61xrf0xL a c d) a c d y0 y1) rfl
def f61xK3:CPost:=kBlock 0 (kSeq (evC P C h61 (cp 61 [4]) 0 (kB 61 Q s0)) (kB 61 Q s0))
@[simp]theorem f61xrf0xE_normal_eq:(f61xK3 C Q s0) .normal (ofL (f61xrf0xL a b c)) s=(bL 34 c fun d=>r1 Q s0 d) s:=by kernel_rfl
@[simp]def f61xS(C:cT)(Q:pT)(a b:vT)(s0:St):Prop:=(nB a fun c=>nB b fun d=>bL 112 c fun e=>bO (mkFn 101 #[e] #[]) fun f=>nZ 171 fun g=>sw 171 g f (nZ 34 fun h=>bF 112 0 c fun i=>bL 79 i fun j=>cf C 76 [j] fun l=>rfW P C 24 (f61xrf0xL d g h) f61xrf0xps f61xrf0xas f61xrf0xbd (evC P C h61 f61xrf0xas 0) (evC P C h61 f61xrf0xbd 0) (f61xK3 C Q s0) l)) s0
def f61xin:=en2 61 f61xS
def f62xl0:Code:=cp 62 [1,0]
def f62xF0:List Value:=a::b::undef::undef::c::un 12 []
@[simp]def f62xB0(C:cT)(K:kT)(I:V3)(a b c:vT):oT:=bC .lss 3 c 16 fun d=>cw d (bL 80 b fun e=>cf C 63 [e,c] fun f=>wJt f a fun g=>wJt f c fun h=>wt f (fun k s=>callF P C g [h] k s) fun i=>wOt f (unV .not i) fun j=>bP f j fun l=>cw l (K .ret (ofL (f62xF0 a b c))) (bA 3 c fun m=>I a b m)) (K (.exit 0) (ofL (f62xF0 a b c)))
def f62xloop0:=lp3 h62 f62xl0 0 f62xF0 f62xB0 (cp 62 [1,0,0])
def f62xK3(C:cT)(Q:pT)(s0:St):CPost:=kBlock 0 (kB 62 Q s0)
@[simp]theorem f62xE0x0xeq:(f62xK3 C Q s0) (.exit 0) (ofL (f62xF0 a b c)) s=r0 Q s0 s:=by kernel_rfl
@[simp]theorem f62xE0xret_eq:(f62xK3 C Q s0) .ret (ofL (f62xF0 a b c)) s=r0 Q s0 s:=by kernel_rfl
@[simp]def f62xS(C:cT)(Q:pT)(a b:vT)(s0:St):Prop:=(fun s0=>evC P C h62 f62xl0 0 (f62xK3 C Q s0) (ofL (f62xF0 a b (.int .i64 0))) s0) s0
def f62xin:=en2 62 f62xS
@[simp]def f63xS(C:cT)(Q:pT)(a b:vT)(s0:St):Prop:=(bZ 80 a fun c=>wJf c b fun d=>wCf c .lss 3 d 0 fun e=>bQ c e fun f=>wJf f b fun g=>wCf f .geq 3 g 16 fun h=>bQ f h fun i=>cw i (r1 Q s0 (.bool false)) (bC .eql 3 b 0 fun j=>wJf j a fun l=>wJf j b fun m=>wOf j (nilV l) fun n=>wFf j 130 0 n fun o=>wIf j 128 o m fun p=>wFf j 127 0 p fun q=>wLf j 4 q fun r=>bQ j r fun t=>r1 Q s0 t)) s0
def f63xin:=en2 63 f63xS
def f64xl0:Code:=cp 64 [2,0]
def f64xF0:List Value:=a::un 9 (b::c::d::un 8 [])
@[simp]def f64xB0(C:cT)(K:kT)(I:V4)(a b c d:vT):oT:=bV .lss 3 d c fun e=>cw e (bI 132 b d fun f=>bL 95 f fun g=>nZ 95 fun h=>sw 95 h g (bL 95 h fun i=>callF P C a [i] fun j=>bM j fun l=>cw l (K .ret (ofL (f64xF0 a b c d))) (bA 3 d fun m=>I a b c m))) (K (.exit 0) (ofL (f64xF0 a b c d)))
def f64xloop0:=lp4 h64 f64xl0 0 f64xF0 f64xB0 (cp 64 [2,0,0])
def f64xK3(C:cT)(Q:pT)(s0:St):CPost:=kBlock 0 (kB 64 Q s0)
@[simp]theorem f64xE0x0xeq:(f64xK3 C Q s0) (.exit 0) (ofL (f64xF0 a b c d)) s=r0 Q s0 s:=by kernel_rfl
@[simp]theorem f64xE0xret_eq:(f64xK3 C Q s0) .ret (ofL (f64xF0 a b c d)) s=r0 Q s0 s:=by kernel_rfl
@[simp]def f64xS(C:cT)(Q:pT)(a b:vT)(s0:St):Prop:=(bL 81 b fun c=>bZ 81 c fun d=>cw d (r0 Q s0) (bL 81 b fun e=>bN e fun f=>bF 134 0 f fun g=>bL 132 g fun h=>bH 132 h fun i=>evC P C h64 f64xl0 0 (f64xK3 C Q s0) (ofL (f64xF0 a h i (.int .i64 0))))) s0
def f64xin:=en2 64 f64xS
def f65xl0:Code:=cp 65 [1,1,0]
def f65xF0:List Value:=a::b::undef::undef::c::undef::undef::d::e::un 10 []
@[simp]def f65xB0(C:cT)(K:kT)(I:V5)(a b c d e:vT):oT:=bV .lss 3 e d fun f=>cw f (bI 34 a e fun g=>bL 43 g fun h=>callF P C b [h] fun i=>cw i (K .ret (ofL (f65xF0 a b e d e))) (bA 3 e fun j=>I a b c d j)) (K (.exit 0) (ofL (f65xF0 a b c d e)))
def f65xloop0:=lp5 h65 f65xl0 0 f65xF0 f65xB0 (cp 65 [1,1,0,0])
def f65xK5:CPost:=kBlock 0 (kSeq (evC P C h65 (cp 65 [2]) 0 (kB 65 Q s0)) (kB 65 Q s0))
@[simp]theorem f65xE0x0xeq:(f65xK5 C Q s0) (.exit 0) (ofL (f65xF0 a b c d e)) s=r1 Q s0 (.int .i64 (-1)) s:=by kernel_rfl
@[simp]theorem f65xE0xret_eq:(f65xK5 C Q s0) .ret (ofL (f65xF0 a b c d e)) s=r1 Q s0 c s:=by kernel_rfl
@[simp]def f65xS(C:cT)(Q:pT)(a b:vT)(s0:St):Prop:=(bH 34 a fun c=>evC P C h65 f65xl0 0 (f65xK5 C Q s0) (ofL (f65xF0 a b (.int .i64 0) c (.int .i64 0)))) s0
def f65xin:=en2 65 f65xS
def f66xl0:Code:=cp 66 [2,0]
def f66xF0:List Value:=a::b::c::d::un 4 (e::f::un 124 [])
@[simp]def f66xJ1(C:cT)(K:kT)(I:V6)(a b c d e f:vT):oT:=cf C 110 [a,b,c,f] fun g=>bE g 0 fun h=>bE g 1 fun i=>bV .sub 3 h b fun j=>bV .sub 3 c h fun l=>bC .quo 3 e 8 fun m=>bV .lss 3 j l fun n=>cw n (bV .geq 3 j m fun o=>cf C 66 [a,b,h,d] fun _=>bA 3 h fun p=>I a p c d o i) (bV .geq 3 l m fun q=>bA 3 h fun r=>cf C 66 [a,r,c,d] fun _=>I a b h d q i)
@[simp]def f66xJ2(C:cT)(K:kT)(I:V6)(a b c d e f g h:vT):oT:=oC .gtr 3 b 0 fun i=>gJt i a fun j=>gJt i b fun l=>gOt i (binV P .sub 3 l (.int .i64 1)) fun m=>gIt i 34 j m fun n=>gLt i 43 n fun o=>gJt i a fun p=>gJt i h fun q=>gIt i 34 p q fun r=>gLt i 43 r fun t=>wt i (fun k s=>callF P C (fv 108) [o,t] k s) fun u=>gOt i (unV .not u) fun v=>oP i v fun w=>cw w (cf C 109 [a,b,c,h] fun x=>I a x c d e f) (f66xJ1 C K I a b c d g h)
@[simp]def f66xJ3(C:cT)(K:kT)(I:V6)(a b c d e f g h i:vT):oT:=wJt e f fun j=>bP e j fun l=>wJt l i fun m=>wCt l .eql 183 m 1 fun n=>bP l n fun o=>cw o (cf C 107 [a,b,c] fun p=>cw p (K .ret (ofL (f66xF0 a b c d e f))) (f66xJ2 C K I a b c d e f g h)) (f66xJ2 C K I a b c d e f g h)
@[simp]def f66xJ4(C:cT)(K:kT)(I:V6)(a b c d e f g:vT):oT:=cf C 105 [a,b,c] fun h=>bE h 0 fun i=>bE h 1 fun j=>bC .eql 183 j 2 fun l=>cw l (cf C 106 [a,b,c] fun _=>bC .sub 3 c 1 fun m=>bV .sub 3 i b fun n=>bV .sub 3 m n fun o=>f66xJ3 C K I a b c d e f g o (.int .i64 1)) (f66xJ3 C K I a b c d e f g i j)
@[simp]def f66xJ5(C:cT)(K:kT)(I:V6)(a b c d e f g:vT):oT:=bM e fun h=>cw h (cf C 104 [a,b,c] fun _=>bC .sub 3 d 1 fun i=>f66xJ4 C K I a b c i e f g) (f66xJ4 C K I a b c d e f g)
@[simp]def f66xJ6(C:cT)(K:kT)(I:V6)(a b c d e f g:vT):oT:=bC .eql 3 d 0 fun h=>cw h (cf C 103 [a,b,c] fun _=>K .ret (ofL (f66xF0 a b c d e f))) (f66xJ5 C K I a b c d e f g)
@[simp]def f66xB0(C:cT)(K:kT)(I:V6)(a b c d e f:vT):oT:=bV .sub 3 c b fun g=>bC .leq 3 g 12 fun h=>cw h (cf C 102 [a,b,c] fun _=>K .ret (ofL (f66xF0 a b c d e f))) (f66xJ6 C K I a b c d e f g)
def f66xloop0:=lp6 h66 f66xl0 0 f66xF0 f66xB0 (cp 66 [2,0,0])
def f66xK7(C:cT)(Q:pT)(s0:St):CPost:=kBlock 0 (kB 66 Q s0)
@[simp]theorem f66xE0xret_eq:(f66xK7 C Q s0) .ret (ofL (f66xF0 a b c d e f)) s=r0 Q s0 s:=by kernel_rfl
@[simp]def f66xS(C:cT)(Q:pT)(a b c d:vT)(s0:St):Prop:=(fun s0=>evC P C h66 f66xl0 0 (f66xK7 C Q s0) (ofL (f66xF0 a b c d (.bool true) (.bool true))) s0) s0
def f66xin:=en4 66 f66xS
@[simp]def f67xS(C:cT)(Q:pT)(a:vT)(s0:St):Prop:=(cw (.bool false) (bR 138 191 a fun b=>cf C 111 [b] fun c=>r1 Q s0 c) (cf C 112 [a] fun d=>r1 Q s0 d)) s0
def f67xin:=en1 67 f67xS
@[simp]def f68xS(C:cT)(Q:pT)(a:vT)(s0:St):Prop:=(bV .eql 47 a (.slice none 0 0) fun b=>cw b (r1 Q s0 (.slice none 0 0)) (newW (bslN (tSlice P 47) 0 #[]) fun c=>apdW P (tSlice P 47) 47 c a fun d=>r1 Q s0 d)) s0
def f68xin:=en1 68 f68xS
@[simp]def f69xS(C:cT)(Q:pT)(a:vT)(s0:St):Prop:=(bZ 78 a fun b=>wJf b a fun c=>wOf b (nilV c) fun d=>wFf b 143 0 d fun e=>wLf b 140 e fun f=>wOf b (binV P .eql 140 f (.pointer none)) fun g=>bQ b g fun h=>cw h (cf C 89 [] fun i=>r1 Q s0 i) (bN a fun j=>bF 143 0 j fun l=>bL 140 l fun m=>r1 Q s0 m)) s0
def f69xin:=en1 69 f69xS
@[simp]def f70xS(C:cT)(Q:pT)(a:vT)(s0:St):Prop:=(bV .eql 144 a (.slice none 0 0) fun b=>cw b (r1 Q s0 (.slice none 0 0)) (newW (bslN (tSlice P 144) 0 #[]) fun c=>apdW P (tSlice P 144) 144 c a fun d=>r1 Q s0 d)) s0
def f70xin:=en1 70 f70xS
@[simp]def f71xS(C:cT)(Q:pT)(a:vT)(s0:St):Prop:=(bV .eql 132 a (.slice none 0 0) fun b=>cw b (r1 Q s0 (.slice none 0 0)) (newW (bslN (tSlice P 132) 0 #[]) fun c=>apdW P (tSlice P 132) 132 c a fun d=>r1 Q s0 d)) s0
def f71xin:=en1 71 f71xS
@[simp]def f72xJ1(C:cT)(Q:pT)(s0:St)(a b:vT):oT:=bL 152 b fun c=>sw 152 a c fun s=>kEnd Q s0 (retV (consO (loadV (tAgg P 152) a s) (consO (some (.bool true)) (some [])))) s
@[simp]def f72xJ2:oT:=bF 152 0 b fun c=>sw 4 c (.bool true) (f72xJ1 C Q s0 a b)
@[simp]def f72xJ3:oT:=bF 152 1 b fun c=>sw 4 c (.bool true) (f72xJ2 C Q s0 a b)
@[simp]def f72xJ5:oT:=bF 152 1 b fun c=>sw 4 c (.bool true) (f72xJ1 C Q s0 a b)
@[simp]def f72xJ12:oT:=cw d (f72xJ3 C Q s0 a b) (bC .eql 3 c 5 fun e=>cw e (f72xJ2 C Q s0 a b) (bC .eql 3 c 6 fun f=>cw f (bF 152 2 b fun g=>sw 4 g (.bool true) (f72xJ5 C Q s0 a b)) (bC .eql 3 c 7 fun h=>cw h (f72xJ5 C Q s0 a b) (bC .eql 3 c 8 fun i=>cw i (f72xJ1 C Q s0 a b) (bL 152 b fun j=>sw 152 a j fun s=>kEnd Q s0 (retV (consO (loadV (tAgg P 152) a s) (consO (some (.bool false)) (some [])))) s)))))
@[simp]def f72xJ14:oT:=cw d (bF 152 3 b fun e=>sw 4 e (.bool true) (f72xJ3 C Q s0 a b)) (bC .eql 3 c 2 fun f=>cw f (f72xJ12 C Q s0 a b c f) (bC .eql 3 c 4 fun g=>f72xJ12 C Q s0 a b c g))
@[simp]def f72xS(C:cT)(Q:pT)(a:vT)(s0:St):Prop:=(nZ 152 fun b=>nZ 152 fun c=>bC .eql 3 a 1 fun d=>cw d (f72xJ14 C Q s0 b c a d) (bC .eql 3 a 3 fun e=>f72xJ14 C Q s0 b c a e)) s0
def f72xin:=en1 72 f72xS
@[simp]def f73xS(C:cT)(Q:pT)(a b:vT)(s0:St):Prop:=(nB a fun c=>nB b fun d=>bF 49 8 c fun e=>bL 47 e fun f=>bF 49 8 d fun g=>bL 47 g fun h=>cf C 113 [f,h] fun i=>wFt i 49 0 c fun j=>wLt i 3 j fun l=>wFt i 49 0 d fun m=>wLt i 3 m fun n=>wVt i .eql 3 l n fun o=>bP i o fun p=>wFt p 49 1 c fun q=>wLt p 43 q fun r=>wFt p 49 1 d fun t=>wLt p 43 t fun u=>wVt p .eql 43 r u fun v=>bP p v fun w=>wFt w 49 2 c fun x=>wLt w 3 x fun y=>wFt w 49 2 d fun z=>wLt w 3 z fun A=>wVt w .eql 3 y A fun B=>bP w B fun D=>wFt D 49 3 c fun E=>wLt D 46 E fun F=>wFt D 49 3 d fun G=>wLt D 46 G fun H=>wVt D .eql 46 F H fun J=>bP D J fun M=>wFt M 49 4 c fun N=>wLt M 43 N fun O=>wFt M 49 4 d fun R=>wLt M 43 R fun T=>wVt M .eql 43 O T fun U=>bP M U fun V=>wFt V 49 5 c fun W=>wLt V 3 W fun X=>wFt V 49 5 d fun Y=>wLt V 3 Y fun Z=>wVt V .eql 3 X Z fun a0=>bP V a0 fun a1=>wFt a1 49 6 c fun a2=>wLt a1 3 a2 fun a3=>wFt a1 49 6 d fun a4=>wLt a1 3 a4 fun a5=>wVt a1 .eql 3 a3 a5 fun a6=>bP a1 a6 fun a7=>wFt a7 49 7 c fun a8=>wLt a7 3 a8 fun a9=>wFt a7 49 7 d fun b0=>wLt a7 3 b0 fun b1=>wVt a7 .eql 3 a9 b1 fun b2=>bP a7 b2 fun b3=>r1 Q s0 b3) s0
def f73xin:=en2 73 f73xS
@[simp]def f74xS(C:cT)(Q:pT)(a b:vT)(s0:St):Prop:=(bC .geq 3 a 0 fun c=>wJt c a fun d=>wJt c b fun e=>wVt c .leq 3 d e fun f=>bP c f fun g=>r1 Q s0 g) s0
def f74xin:=en2 74 f74xS
end
end Go.Zz
