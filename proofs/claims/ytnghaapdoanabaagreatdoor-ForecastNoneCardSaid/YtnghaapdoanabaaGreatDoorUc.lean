import Derived.Test.YtnghaapdoanabaaGreatDoorU0
set_option linter.all false
set_option maxRecDepth 20000
set_option linter.all false
namespace Go.Zz
open Go
noncomputable section
variable (C:cT)(K:kT)(Q:pT)(s0:St)(a b c d e f g h i j l m n o p q r t u v w x y z A B D E F G H J M N O R T U V W X Y Z a0 a1 a2 a3 a4 a5 a6 a7 a8 a9 b0 b1 b2 b3 b4 b5 b6 b7 b8 b9:vT)(s:St)
@[simp]def f75xS(C:cT)(Q:pT)(a:vT)(s0:St):Prop:=(nB a fun b=>bF 49 3 b fun c=>bL 46 c fun d=>nZ 46 fun e=>sw 46 e d (bF 49 4 b fun f=>bL 43 f fun g=>bV .geq 43 g (.int .u64 1) fun h=>wFt h 49 4 b fun i=>wLt h 43 i fun j=>wFt h 49 1 b fun l=>wLt h 43 l fun m=>wVt h .lss 43 j m fun n=>bP h n fun o=>bF 46 0 e fun p=>bL 3 p fun q=>bC .geq 3 q 1 fun r=>wFt r 46 0 e fun t=>wLt r 3 t fun u=>wCt r .lss 3 u 16 fun v=>bP r v fun w=>bF 49 0 b fun x=>bL 3 x fun y=>bC .eql 3 y 1 fun z=>cw z (bL 46 e fun A=>cf C 114 [A] fun B=>wFt B 49 4 b fun D=>wLt B 43 D fun E=>wVt B .leq 43 E (.int .u64 1) fun F=>bP B F fun G=>wFt G 49 8 b fun H=>wLt G 47 H fun J=>wHt G 47 J fun M=>wCt G .eql 3 M 32 fun N=>bP G N fun O=>r1 Q s0 O) (bC .eql 3 y 2 fun R=>cw R (bL 46 e fun T=>cf C 114 [T] fun U=>wJt U o fun V=>bP U V fun W=>r1 Q s0 W) (bC .eql 3 y 3 fun X=>cw X (bL 46 e fun Y=>cf C 114 [Y] fun Z=>wJt Z o fun a0=>bP Z a0 fun a1=>wFt a1 49 8 b fun a2=>wLt a1 47 a2 fun a3=>wHt a1 47 a3 fun a4=>wCt a1 .geq 3 a4 1 fun a5=>bP a1 a5 fun a6=>wFt a6 49 8 b fun a7=>wLt a6 47 a7 fun a8=>wHt a6 47 a8 fun a9=>wCt a6 .leq 3 a9 20 fun b0=>bP a6 b0 fun b1=>r1 Q s0 b1) (bC .eql 3 y 4 fun b2=>cw b2 (wFt w 46 1 e fun b3=>wLt w 3 b3 fun b4=>wt w (fun k s=>A0u P C (fv 74) [b4,(.int .i64 15)] k s) fun b5=>bP w b5 fun b6=>wFt b6 46 1 e fun b7=>wLt b6 3 b7 fun b8=>wFt b6 46 0 e fun b9=>wLt b6 3 b9 fun c0=>wVt b6 .neq 3 b8 c0 fun c1=>bP b6 c1 fun c2=>wFt c2 46 2 e fun c3=>wLt c2 3 c3 fun c4=>wCt c2 .eql 3 c4 0 fun c5=>bP c2 c5 fun c6=>wJt c6 o fun c7=>bP c6 c7 fun c8=>r1 Q s0 c8) (bC .eql 3 y 5 fun c9=>cw c9 (wFt w 46 1 e fun d0=>wLt w 3 d0 fun d1=>wCt w .eql 3 d1 0 fun d2=>bP w d2 fun d3=>wFt d3 46 2 e fun d4=>wLt d3 3 d4 fun d5=>wCt d3 .eql 3 d5 0 fun d6=>bP d3 d6 fun d7=>r1 Q s0 d7) (bC .eql 3 y 6 fun d8=>cw d8 (bF 49 4 b fun d9=>bL 43 d9 fun e0=>bV .geq 43 e0 (.int .u64 1) fun e1=>wFt e1 49 4 b fun e2=>wLt e1 43 e2 fun e3=>wVt e1 .leq 43 e3 (.int .u64 65535) fun e4=>bP e1 e4 fun e5=>wFt e5 49 5 b fun e6=>wLt e5 3 e6 fun e7=>wFt e5 49 6 b fun e8=>wLt e5 3 e8 fun e9=>wt e5 (fun k s=>A0u P C (fv 74) [e7,e9] k s) fun f0=>bP e5 f0 fun f1=>wFt f1 49 6 b fun f2=>wLt f1 3 f2 fun f3=>wt f1 (fun k s=>A0u P C (fv 74) [f3,(.int .i64 1073741824)] k s) fun f4=>bP f1 f4 fun f5=>wFt f5 49 7 b fun f6=>wLt f5 3 f6 fun f7=>wt f5 (fun k s=>A0u P C (fv 74) [f7,(.int .i64 1073741824)] k s) fun f8=>bP f5 f8 fun f9=>r1 Q s0 f9) (bC .eql 3 y 7 fun g0=>cw g0 (bF 49 4 b fun g1=>bL 43 g1 fun g2=>bV .geq 43 g2 (.int .u64 1) fun g3=>wFt g3 49 4 b fun g4=>wLt g3 43 g4 fun g5=>wVt g3 .leq 43 g5 (.int .u64 65535) fun g6=>bP g3 g6 fun g7=>r1 Q s0 g7) (r1 Q s0 (.bool true)))))))))) s0
def H09:=en1 75 f75xS
@[simp]def f76xS(C:cT)(Q:pT)(a:vT)(s0:St):Prop:=(nB a fun b=>bO (mkFn 115 #[] #[b]) fun c=>r1 Q s0 c) s0
def G1p:=en1 76 f76xS
@[simp]def f77xS(C:cT)(Q:pT)(a b:vT)(s0:St):Prop:=(cf C 95 [a,b] fun c=>bE c 0 fun d=>bE c 1 fun e=>wJt e a fun f=>wOt e (nilV f) fun g=>wFt e 149 0 g fun h=>wLt e 144 h fun i=>wJt e d fun j=>wIt e 144 i j fun l=>wFt e 147 2 l fun m=>wLt e 4 m fun n=>bP e n fun o=>r1 Q s0 o) s0
def G79:=en2 77 f77xS
def E7z:Code:=cp 78 [4,1,0]
def C6e:List Value:=undef::a::b::c::un 3 (d::undef::e::un 12 (f::g::h::un 28 []))
@[simp]def E51(C:cT)(K:kT)(I:V8)(a b c d e f g h:vT):oT:=bA 3 h fun i=>I a b c d e f g i
@[simp]def E5p(C:cT)(K:kT)(I:V8)(a b c d e f g h i:vT):oT:=bV .add 3 d f fun j=>newW (bslN (A0e P 28) 1 #[(0,j)]) fun l=>apdW P (A0e P 28) 28 e l fun m=>E51 C K I a b c d m g h i
@[simp]def G6p(C:cT)(K:kT)(I:V8)(a b c d e f g h:vT):oT:=bV .lss 3 h g fun i=>cw i (bI 74 f h fun j=>bL 170 j fun l=>nZ 170 fun m=>sw 170 m l (bF 170 0 m fun n=>bL 168 n fun o=>A0u P C o [a,b] fun p=>bM p fun q=>cw q (E51 C K I a b c d e f g h) (bF 170 1 m fun r=>bL 3 r fun t=>bF 76 2 c fun u=>bL 4 u fun v=>cw v (bF 76 1 c fun w=>bL 3 w fun x=>bO (B3t min2 [t,x]) fun y=>E5p C K I a b c d e y f g h) (E5p C K I a b c d e t f g h)))) (K (.exit 0) (ofL (C6e a b c d e f g h)))
def D3l:=lp8 h78 E7z 0 C6e G6p (cp 78 [4,1,0,0])
def E5a:A0l:=A0h 0 (kSeq (evC P C h78 (cp 78 [5]) 0 (kB 78 Q s0)) (kB 78 Q s0))
@[simp]theorem E9a:(E5a C Q s0) (.exit 0) (ofL (C6e a b c d e f g h)) s=(cf C 117 [e] fun _=>cf C 118 [e] fun i=>r1 Q s0 i) s:=by kernel_rfl
@[simp]def f78xS(C:cT)(Q:pT)(a b c:vT)(s0:St):Prop:=(nB a fun d=>cf C 116 [b,c] fun e=>bE e 0 fun f=>bE e 1 fun g=>bM g fun h=>cw h (r1 Q s0 (.slice none 0 0)) (bF 76 0 d fun i=>bL 74 i fun j=>bH 74 j fun l=>evC P C h78 E7z 0 (E5a C Q s0) (ofL (C6e b c d f (.slice none 0 0) j l (.int .i64 0))))) s0
def G4j:=en3 78 f78xS
def E6q:Code:=cp 79 [1,0]
def C7n:List Value:=a::b::un 5 (c::un 11 [])
@[simp]def G82(C:cT)(K:kT)(I:V3)(a b c:vT):oT:=B28 false c fun d=>bE d 0 fun e=>cw e (A7k c fun f=>bE f 0 fun g=>bE f 1 fun h=>A0u P C b [g,h] fun i=>cw i (delW (tMap P 158) a g fun _=>I a b c) (I a b c)) (K (.exit 0) (ofL (C7n a b c)))
def D5u:=lp3 h79 E6q 0 C7n G82 (cp 79 [1,0,0])
def E8a(C:cT)(Q:pT)(s0:St):A0l:=A0h 0 (kB 79 Q s0)
@[simp]theorem F2b:(E8a C Q s0) (.exit 0) (ofL (C7n a b c)) s=r0 Q s0 s:=by kernel_rfl
@[simp]def f79xS(C:cT)(Q:pT)(a b:vT)(s0:St):Prop:=(fun s0=>A75 (A22 P 158) a (fun c s=>evC P C h79 E6q 0 (E8a C Q s0) (ofL (C7n a b c)) s) s0) s0
def G13:=en2 79 f79xS
@[simp]def f80xS(C:cT)(Q:pT)(a b c:vT)(s0:St):Prop:=(bL 3 c fun d=>bV .leq 3 a d fun e=>r1 Q s0 e) s0
def G4m:=en3 80 f80xS
@[simp]def f81xS(C:cT)(Q:pT)(a:vT)(s0:St):Prop:=(cf C 119 [a] fun b=>cf C 117 [b] fun _=>r1 Q s0 b) s0
def H0d:=en1 81 f81xS
@[simp]def f82xS(C:cT)(Q:pT)(a:vT)(s0:St):Prop:=(nB a fun b=>bO (mkFn 120 #[] #[b]) fun c=>r1 Q s0 c) s0
def G35:=en1 82 f82xS
@[simp]def E56:oT:=cw b (bF 72 1 a fun c=>bL 3 c fun d=>cf C 121 [d] fun e=>wFt e 72 2 a fun f=>wLt e 3 f fun g=>wt e (fun k s=>A0u P C (fv 121) [g] k s) fun h=>bP e h fun i=>r1 Q s0 i) (r1 Q s0 (.bool false))
@[simp]def E59:oT:=cw c (bF 72 1 a fun d=>bL 3 d fun e=>bC .eql 3 e 0 fun f=>wFt f 72 2 a fun g=>wLt f 3 g fun h=>wt f (fun k s=>A0u P C (fv 121) [h] k s) fun i=>bP f i fun j=>r1 Q s0 j) (bC .eql 3 b 2 fun l=>cw l (E56 C Q s0 a l) (bC .eql 3 b 3 fun m=>E56 C Q s0 a m))
@[simp]def f83xS(C:cT)(Q:pT)(a:vT)(s0:St):Prop:=(nB a fun b=>bF 72 0 b fun c=>bL 3 c fun d=>bC .eql 3 d 1 fun e=>cw e (E59 C Q s0 b d e) (bC .eql 3 d 4 fun f=>E59 C Q s0 b d f)) s0
def H08:=en1 83 f83xS
@[simp]def f84xS(C:cT)(Q:pT)(a b:vT)(s0:St):Prop:=(r1 Q s0 (.bool true)) s0
def G7p:=en2 84 f84xS
@[simp]def f85xS(C:cT)(Q:pT)(a b c:vT)(s0:St):Prop:=(bF 72 1 c fun d=>bL 3 d fun e=>cf C 86 [a,b,e] fun f=>r1 Q s0 f) s0
def G9q:=en3 85 f85xS
@[simp]def f86xS(C:cT)(Q:pT)(a b c:vT)(s0:St):Prop:=(cf C 122 [a,b] fun d=>bE d 0 fun e=>bE d 1 fun f=>bE d 2 fun g=>bE d 3 fun h=>gJt g c fun i=>gOt g (binV P .geq 3 i (.int .i64 1)) fun j=>oP g j fun l=>gJt l h fun m=>gJt l m fun n=>gJf n e fun o=>gJf n c fun p=>gOf n (binV P .quo 3 o p) fun q=>gJf n f fun r=>gJf n c fun t=>gOf n (binV P .quo 3 r t) fun u=>gOf n (binV P .neq 3 q u) fun v=>gOt l (A6r n (.bool true) v) fun w=>oP l w fun x=>r1 Q s0 x) s0
def G30:=en3 86 f86xS
@[simp]def f87xS(C:cT)(Q:pT)(a b c:vT)(s0:St):Prop:=(bF 72 1 c fun d=>bL 3 d fun e=>cf C 88 [a,b,e] fun f=>r1 Q s0 f) s0
def G4x:=en3 87 f87xS
@[simp]def f88xS(C:cT)(Q:pT)(a b c:vT)(s0:St):Prop:=(cf C 122 [a,b] fun d=>bE d 0 fun e=>bE d 1 fun f=>bE d 2 fun g=>bE d 3 fun h=>wJt g c fun i=>wCt g .geq 3 i 0 fun j=>bP g j fun l=>wJt l h fun m=>wJt l m fun n=>wJf n f fun o=>wJf n e fun p=>wVf n .sub 3 o p fun q=>wJf n c fun r=>wVf n .gtr 3 q r fun t=>wOt l (A6r n (.bool true) t) fun u=>bP l u fun v=>r1 Q s0 v) s0
def H0m:=en3 88 f88xS
@[simp]def f89xS(C:cT)(Q:pT)(s0:St):Prop:=(bO (A0r P 201 #[]) fun a=>nB a fun b=>r1 Q s0 b) s0
def G6l:=en0 89 f89xS
@[simp]def f90xS(C:cT)(Q:pT)(a b:vT)(s0:St):Prop:=(cf C 95 [a,b] fun c=>bE c 0 fun d=>bE c 1 fun e=>bZ 79 a fun f=>cw f (r1 Q s0 (.int .i64 1)) (bM e fun g=>cw g (r1 Q s0 (.int .i64 4)) (bN a fun h=>bF 149 0 h fun i=>bL 144 i fun j=>bI 144 j d fun l=>bF 147 2 l fun m=>bL 4 m fun n=>cw n (r1 Q s0 (.int .i64 7)) (bN a fun o=>bF 149 0 o fun p=>bL 144 p fun q=>bH 144 q fun r=>bC .sub 3 r 1 fun t=>bV .eql 3 d t fun u=>cw u (r1 Q s0 (.int .i64 12)) (bN a fun v=>bF 149 0 v fun w=>bL 144 w fun x=>bI 144 x d fun y=>bF 147 2 y fun z=>sw 4 z (.bool true) (r1 Q s0 (.int .i64 0))))))) s0
def G91:=en2 90 f90xS
@[simp]def f91xS(C:cT)(Q:pT)(a b:vT)(s0:St):Prop:=(cf C 123 [a,b] fun c=>bC .geq 3 c 0 fun d=>r1 Q s0 d) s0
def G9z:=en2 91 f91xS
@[simp]def f92xS(C:cT)(Q:pT)(a b c:vT)(s0:St):Prop:=(nB b fun d=>bZ 78 a fun e=>cw e (r1 Q s0 (.int .i64 1)) (bL 46 d fun f=>bO (A0r P 204 #[(0,f),(1,c)]) fun g=>nZ 204 fun h=>sw 204 h g (oN a fun i=>oF 143 0 i fun j=>oL 140 j fun l=>oL 204 h fun m=>cf C 124 [l,m] fun n=>oE n 0 fun _=>oE n 1 fun o=>bM o fun p=>cw p (r1 Q s0 (.int .i64 4)) (oN a fun q=>oF 143 0 q fun r=>oL 140 r fun t=>oL 204 h fun u=>cf C 125 [t,u] fun v=>oN a fun w=>oF 143 0 w fun x=>sw 140 x v (r1 Q s0 (.int .i64 0)))))) s0
def H01:=en3 92 f92xS
@[simp]def f93xS(C:cT)(Q:pT)(a b:vT)(s0:St):Prop:=(cf C 95 [a,b] fun c=>bE c 0 fun d=>bE c 1 fun e=>bZ 79 a fun f=>cw f (r1 Q s0 (.int .i64 1)) (bM e fun g=>cw g (r1 Q s0 (.int .i64 4)) (bN a fun h=>bF 149 0 h fun i=>bL 144 i fun j=>bI 144 j d fun l=>bF 147 2 l fun m=>bL 4 m fun n=>bM n fun o=>cw o (r1 Q s0 (.int .i64 7)) (bN a fun p=>bF 149 0 p fun q=>bL 144 q fun r=>bA 3 d fun t=>cf C 126 [r,d,t] fun u=>bN a fun v=>bF 149 0 v fun w=>sw 144 w u (r1 Q s0 (.int .i64 0)))))) s0
def G1y:=en2 93 f93xS
@[simp]def f94xS(C:cT)(Q:pT)(a b:vT)(s0:St):Prop:=(bZ 81 a fun c=>cw c (r1 Q s0 (.int .i64 1)) (cf C 127 [a,b] fun d=>bC .lss 3 d 0 fun e=>cw e (r1 Q s0 (.int .i64 4)) (bN a fun f=>bF 134 0 f fun g=>bL 132 g fun h=>bA 3 d fun i=>cf C 128 [h,d,i] fun j=>bN a fun l=>bF 134 0 l fun m=>sw 132 m j (r1 Q s0 (.int .i64 0))))) s0
def G5b:=en2 94 f94xS
@[simp]def f95xS(C:cT)(Q:pT)(a b:vT)(s0:St):Prop:=(bZ 79 a fun c=>cw c (r2 Q s0 (.int .i64 0) (.bool false)) (bN a fun d=>bF 149 0 d fun e=>bL 144 e fun f=>cf C 129 [f,b,(fv 130)] fun g=>bE g 0 fun h=>bE g 1 fun i=>r2 Q s0 h i)) s0
def G9g:=en2 95 f95xS
@[simp]def f96xS(C:cT)(Q:pT)(a:vT)(s0:St):Prop:=(bZ 79 a fun b=>cw b (r1 Q s0 (.int .i64 0)) (bN a fun c=>bF 149 0 c fun d=>bL 144 d fun e=>bH 144 e fun f=>r1 Q s0 f)) s0
def G8s:=en1 96 f96xS
@[simp]def f97xS(C:cT)(Q:pT)(a:vT)(s0:St):Prop:=(cf C 131 [a] fun b=>cf C 34 [b] fun _=>r1 Q s0 b) s0
def G2c:=en1 97 f97xS
@[simp]def f98xS(C:cT)(Q:pT)(a:vT)(s0:St):Prop:=(nB a fun b=>bO (mkFn 132 #[] #[b]) fun c=>r1 Q s0 c) s0
def H07:=en1 98 f98xS
def E5c:Code:=cp 99 [2,1,0]
def C7u:List Value:=a::un 4 (b::un 5 (c::d::e::un 20 []))
def E7j:Code:=cp 99 [2,1,0,2,0,3,0]
def C6y:List Value:=a::un 4 (b::un 5 (c::d::e::un 7 (f::g::h::un 10 [])))
@[simp]def G8o(C:cT)(K:kT)(I:V8)(a b c d e f g h:vT):oT:=bV .lss 3 h g fun i=>cw i (bI 34 f h fun j=>bL 43 j fun l=>A3y (tMap P 117) b l (.bool true) fun _=>bA 3 h fun m=>I a b c d e f g m) (K (.exit 2) (ofL (C6y a b c d e f g h)))
def D8k:=lp8 h99 E7j 2 C6y G8o (cp 99 [2,1,0,2,0,3,0,0])
def E8s(C:cT)(K:kT)(I:V5):A0l:=A0h 2 (A0h 1 (kSeq (evC P C h99 (cR (cR (cR (cL (cL (cR (cL (cp 99 [2])))))))) 0 (A5n h99 0 (fun l s=>I (l.getD 0 undef) (l.getD 5 undef) (l.getD 11 undef) (l.getD 12 undef) (l.getD 13 undef) s) K)) (A5n h99 0 (fun l s=>I (l.getD 0 undef) (l.getD 5 undef) (l.getD 11 undef) (l.getD 12 undef) (l.getD 13 undef) s) K)))
@[simp]theorem E90(I:V5):(E8s C K I) (.exit 2) (ofL (C6y a c d e f g h i)) s=(bA 3 f fun j=>I a c d e j) s:=by kernel_rfl
@[simp]def G2x(C:cT)(K:kT)(I:V5)(a b c d e:vT):oT:=bV .lss 3 e d fun f=>cw f (bI 34 c e fun g=>bL 43 g fun h=>A3y (tMap P 117) b h (.bool true) fun _=>cf C 133 [a,h] fun i=>bH 34 i fun j=>evC P C h99 E7j 2 (E8s C K I) (ofL (C6y a b c d e i j (.int .i64 0)))) (K (.exit 0) (ofL (C7u a b c d e)))
def D8v:=lp5 h99 E5c 0 C7u G2x (cp 99 [2,1,0,0])
def D87:A0l:=A0h 0 (kSeq (evC P C h99 (cp 99 [3]) 0 (kB 99 Q s0)) (kB 99 Q s0))
@[simp]theorem F3n:(D87 C Q s0) (.exit 0) (ofL (C7u a b c d e)) s=(cf C 98 [b] fun f=>cf C 97 [f] fun g=>r1 Q s0 g) s:=by kernel_rfl
@[simp]def f99xS(C:cT)(Q:pT)(a b:vT)(s0:St):Prop:=(newW (mapN (A22 P 117) none) fun c=>bH 34 b fun d=>evC P C h99 E5c 0 (D87 C Q s0) (ofL (C7u a c b d (.int .i64 0)))) s0
def G5u:=en2 99 f99xS
def A1b:Code:=cp 100 [3,1,0,0]
def A1c:Code:=cp 100 [3,1,1]
def A1l:Array Tmp:=#[22]
def A4x:List Value:=un 3 (a::b::c::undef::d::un 48 [])
@[simp]def B0v(C:cT)(Q:pT)(b:Nat)(L:List vT)(a c d e f:vT):oT:=bL 80 c fun g=>bF 204 0 f fun h=>bF 46 0 h fun i=>bL 3 i fun j=>cf C 30 [g,j] fun m=>bE m 0 fun n=>bE m 1 fun o=>nZ 43 fun p=>sw 43 p n (bM o fun q=>wFf q 204 1 f fun r=>wLf q 43 r fun t=>wLf q 43 p fun u=>wVf q .leq 43 t u fun v=>bQ q v fun w=>cw w (fun s=>s.heap b=some (.loop L A1l A1b A1c .busy none)∧Q (.bool true) (s.put b (.loop L A1l A1b A1c .ready none))) (bL 78 a fun x=>bF 204 0 f fun z=>bL 46 z fun A=>bF 204 1 f fun B=>bL 43 B fun D=>cf C 135 [x,A,D] fun E=>bE E 0 fun F=>bE E 1 fun G=>nZ 43 fun H=>nZ 4 fun J=>sw 43 H F (sw 4 J G (bL 34 d fun M=>bO (mkFn 137 #[] #[p,f,J,H]) fun N=>cf C 136 [M,N] fun O=>cw O (bL 117 e fun R=>bF 204 1 f fun T=>bL 43 T fun U=>A3y (tMap P 117) R U (.bool true) fun _=>fun s=>s.heap b=some (.loop L A1l A1b A1c .busy none)∧Q (.bool true) (s.put b (.loop L A1l A1b A1c .ready none))) (fun s=>s.heap b=some (.loop L A1l A1b A1c .busy none)∧Q (.bool true) (s.put b (.loop L A1l A1b A1c .ready none)))))))
@[simp]def C9z(C:cT)(Q:pT)(b:Nat)(L:List vT)(a c d e y0:vT):oT:=nZ 204 fun f=>sw 204 f y0 fun s=>s.heap b=some (.loop L A1l A1b A1c .ready none)∧B0v C Q b L a c d e f (s.put b (.loop L A1l A1b A1c .busy none))
def B6x{a c d e}:=rf1 h100 A1b A1c 0 56 A1l (A4x a c d e) (fun C Q b y=>C9z C Q b (A4x a c d e) a c d e y) rfl
def D4s:A0l:=A0h 0 (kSeq (evC P C h100 (cp 100 [4]) 0 (kB 100 Q s0)) (kB 100 Q s0))
@[simp]theorem C24:(D4s C Q s0) .normal (ofL (A4x a b c d)) s=(bL 117 d fun e=>cf C 58 [e] fun f=>r1 Q s0 f) s:=by kernel_rfl
@[simp]def G8m(C:cT)(Q:pT)(a b c:vT)(s0:St):Prop:=(nB a fun d=>nB b fun e=>nB c fun f=>bL 78 d fun g=>bZ 78 g fun h=>wLf h 80 e fun i=>wOf h (binV P .eql 80 i (.pointer none)) fun j=>bQ h j fun l=>cw l (r1 Q s0 (.slice none 0 0)) (newW (mapN (A22 P 117) none) fun m=>nZ 117 fun n=>sw 117 n m (bL 78 d fun o=>cf C 134 [o] fun p=>rfW P C 56 (A4x d e f n) A1l A1b A1c (evC P C h100 A1b 0) (evC P C h100 A1c 0) (D4s C Q s0) p))) s0
def F0c:=en3 100 G8m
@[simp]def G53(C:cT)(Q:pT)(a b c:vT)(s0:St):Prop:=(nB a fun d=>bF 112 0 d fun e=>bL 79 e fun f=>cf C 116 [f,b] fun g=>bE g 0 fun h=>bE g 1 fun i=>bM i fun j=>wFf j 112 0 d fun l=>wLf j 79 l fun m=>wJf j b fun n=>wf j (fun k s=>A0u P C (fv 77) [m,n] k s) fun o=>bQ j o fun p=>cw p (r1 Q s0 (.bool false)) (bF 112 0 d fun q=>bL 79 q fun r=>cf C 138 [r] fun t=>bE t 0 fun u=>bE t 1 fun v=>wJt v u fun w=>wJt v b fun x=>wVt v .eql 43 w x fun y=>bP v y fun z=>cw z (r1 Q s0 (.bool true)) (bF 112 1 d fun A=>bL 76 A fun B=>bF 112 0 d fun D=>bL 79 D fun E=>cf C 139 [B,E,b,c] fun F=>wLf F 112 d fun G=>wJf F b fun H=>wJf F h fun J=>wJf F c fun M=>wf F (fun k s=>A0u P C (fv 140) [G,H,J,M] k s) fun N=>bQ F N fun O=>wFf O 112 3 d fun R=>wLf O 80 R fun T=>wf O (fun k s=>A0u P C (fv 141) [T] k s) fun U=>wJf O b fun V=>wf O (fun k s=>A0u P C (fv 91) [U,V] k s) fun W=>bQ O W fun X=>r1 Q s0 X))) s0
def F7e:=en3 101 G53
def D9u:Code:=cp 102 [1,0]
def C1m:List Value:=a::b::c::un 3 (d::un 42 [])
def D7t:Code:=cp 102 [1,0,1,0,1,0]
def C0l:List Value:=a::b::c::un 3 (d::e::un 41 [])
@[simp]def F7b(C:cT)(K:kT)(I:V5)(a b c d e:vT):oT:=oV .gtr 3 e b fun f=>gJt f a fun g=>gJt f e fun h=>gIt f 34 g h fun i=>gLt f 43 i fun j=>gJt f a fun l=>gJt f e fun m=>gOt f (binV P .sub 3 m (.int .i64 1)) fun n=>gIt f 34 l n fun o=>gLt f 43 o fun p=>wt f (fun k s=>A0u P C (fv 108) [j,p] k s) fun q=>oP f q fun r=>cw r (oC .sub 3 e 1 fun t=>oC .sub 3 e 1 fun u=>oI 34 a u fun v=>oL 43 v fun w=>oI 34 a e fun x=>oL 43 x fun y=>oI 34 a e fun z=>sw 43 z w (oI 34 a t fun A=>sw 43 A y (bC .sub 3 e 1 fun B=>I a b c d B))) (K (.exit 2) (ofL (C0l a b c d e)))
def D0h:=lp5 h102 D7t 2 C0l F7b (cp 102 [1,0,1,0,1,0,0])
def D9s(C:cT)(K:kT)(I:V4):A0l:=A0h 2 (A0h 1 (kSeq (evC P C h102 (cR (cR (cL (cL (cp 102 [1]))))) 0 (A5n h102 0 (fun l s=>I (l.getD 0 undef) (l.getD 1 undef) (l.getD 2 undef) (l.getD 6 undef) s) K)) (A5n h102 0 (fun l s=>I (l.getD 0 undef) (l.getD 1 undef) (l.getD 2 undef) (l.getD 6 undef) s) K)))
@[simp]theorem E6z(I:V4):(D9s C K I) (.exit 2) (ofL (C0l a c d e f)) s=(bA 3 e fun g=>I a c d g) s:=by kernel_rfl
@[simp]def E9q(C:cT)(K:kT)(I:V4)(a b c d:vT):oT:=bV .lss 3 d c fun e=>cw e (evC P C h102 D7t 2 (D9s C K I) (ofL (C0l a b c d d))) (K (.exit 0) (ofL (C1m a b c d)))
def C98:=lp4 h102 D9u 0 C1m E9q (cp 102 [1,0,0])
def D53(C:cT)(Q:pT)(s0:St):A0l:=A0h 0 (kB 102 Q s0)
@[simp]theorem E72:(D53 C Q s0) (.exit 0) (ofL (C1m a b c d)) s=r0 Q s0 s:=by kernel_rfl
@[simp]def G8q(C:cT)(Q:pT)(a b c:vT)(s0:St):Prop:=(bA 3 b fun d=>evC P C h102 D9u 0 (D53 C Q s0) (ofL (C1m a b c d))) s0
def F1s:=en3 102 G8q
def D4z:Code:=cp 103 [3,1,0]
def C0w:List Value:=a::un 5 (b::c::d::e::un 46 [])
@[simp]def C1c(C:cT)(K:kT)(I:V5)(a b c d e:vT):oT:=bC .sub 3 e 1 fun f=>I a b c d f
@[simp]def C3z(C:cT)(K:kT)(I:V5)(a b c d e:vT):oT:=cf C 142 [a,e,d,b] fun _=>C1c C K I a b c d e
@[simp]def F4p(C:cT)(K:kT)(I:V5)(a b c d e:vT):oT:=bC .geq 3 e 0 fun f=>cw f (C3z C K I a b c d e) (K (.exit 0) (ofL (C0w a b c d e)))
def C8b:=lp5 h103 D4z 0 C0w F4p (cp 103 [3,1,0,0])
def D3c:Code:=cp 103 [5,0]
def B9o:List Value:=a::un 5 (b::c::undef::undef::d::un 45 [])
@[simp]def C5r(C:cT)(K:kT)(I:V4)(a b c d:vT):oT:=bC .sub 3 d 1 fun e=>I a b c e
@[simp]def C3m(C:cT)(K:kT)(I:V4)(a b c d:vT):oT:=oV .add 3 b d fun e=>oV .add 3 b d fun f=>oI 34 a f fun g=>oL 43 g fun h=>oI 34 a b fun i=>oL 43 i fun j=>oI 34 a b fun l=>sw 43 l h (oI 34 a e fun m=>sw 43 m j (cf C 142 [a,c,d,b] fun _=>C5r C K I a b c d))
@[simp]def F4k(C:cT)(K:kT)(I:V4)(a b c d:vT):oT:=bC .geq 3 d 0 fun e=>cw e (C3m C K I a b c d) (K (.exit 2) (ofL (B9o a b c d)))
def D0k:=lp4 h103 D3c 2 B9o F4k (cp 103 [5,0,0])
def D9n(C:cT)(Q:pT)(s0:St):A0l:=A0h 2 (kB 103 Q s0)
@[simp]theorem E8u:(D9n C Q s0) (.exit 2) (ofL (B9o a b c d)) s=r0 Q s0 s:=by kernel_rfl
@[simp]def C0z:oT:=bC .sub 3 d 1 fun e=>evC P C h103 D3c 2 (D9n C Q s0) (ofL (B9o a b c e))
def D8e:A0l:=A0h 0 (kSeq (evC P C h103 (cp 103 [4]) 0 (kB 103 Q s0)) (kB 103 Q s0))
@[simp]theorem E6j:(D8e C Q s0) (.exit 0) (ofL (C0w a b c d e)) s=C0z C Q s0 a b c d s:=by kernel_rfl
@[simp]def G9v(C:cT)(Q:pT)(a b c:vT)(s0:St):Prop:=(bV .sub 3 c b fun d=>bC .sub 3 d 1 fun e=>bC .quo 3 e 2 fun f=>evC P C h103 D4z 0 (D8e C Q s0) (ofL (C0w a b (.int .i64 0) d f))) s0
def F8d:=en3 103 G9v
def D7y:Code:=cp 104 [2,3,0]
def B9z:List Value:=a::b::un 4 (c::d::e::f::un 55 [])
@[simp]def B5f(C:cT)(K:kT)(I:V6)(a b c d e f:vT):oT:=bA 3 f fun g=>I a b c d e g
@[simp]def B0n(C:cT)(K:kT)(I:V6)(a b c d e f g:vT):oT:=oV .add 3 b g fun h=>oV .add 3 b g fun i=>oI 34 a i fun j=>oL 43 j fun l=>oI 34 a f fun m=>oL 43 m fun n=>oI 34 a f fun o=>sw 43 o l (oI 34 a h fun p=>sw 43 p n (B5f C K I a b c d e f))
@[simp]def B4h(C:cT)(K:kT)(I:V6)(a b c d e f:vT):oT:=cf C 144 [d] fun g=>bV .sub 138 e (.int .u64 1) fun h=>bV .and 138 g h fun i=>bR 138 3 i fun j=>bV .geq 3 j c fun l=>cw l (bV .sub 3 j c fun m=>B0n C K I a b c d e f m) (B0n C K I a b c d e f j)
@[simp]def F0h(C:cT)(K:kT)(I:V6)(a b c d e f:vT):oT:=bC .quo 3 c 4 fun g=>bC .mul 3 g 2 fun h=>bV .add 3 b h fun i=>bA 3 i fun j=>bV .leq 3 f j fun l=>cw l (B4h C K I a b c d e f) (K (.exit 0) (ofL (B9z a b c d e f)))
def D15:=lp6 h104 D7y 0 B9z F0h (cp 104 [2,3,0,0])
def C34(C:cT)(Q:pT)(s0:St):A0l:=A0h 0 (kB 104 Q s0)
@[simp]theorem E48:(C34 C Q s0) (.exit 0) (ofL (B9z a b c d e f)) s=r0 Q s0 s:=by kernel_rfl
@[simp]def G98(C:cT)(Q:pT)(a b c:vT)(s0:St):Prop:=(bV .sub 3 c b fun d=>bC .geq 3 d 8 fun e=>cw e (bR 3 220 d fun f=>nZ 220 fun g=>sw 220 g f (cf C 143 [d] fun h=>bC .quo 3 d 4 fun i=>bC .mul 3 i 2 fun j=>bV .add 3 b j fun l=>bC .sub 3 l 1 fun m=>evC P C h104 D7y 0 (C34 C Q s0) (ofL (B9z a b d g h m)))) (r0 Q s0)) s0
def F23:=en3 104 G98
@[simp]def B0d(C:cT)(Q:pT)(s0:St)(a b:vT):oT:=bL 3 a fun c=>bC .eql 3 c 0 fun d=>cw d (r2 Q s0 b (.int .i64 1)) (bC .eql 3 c 12 fun e=>cw e (r2 Q s0 b (.int .i64 2)) (r2 Q s0 b (.int .i64 0)))
@[simp]def A9d:oT:=cf C 146 [a,c,d,e,b] fun f=>B0d C Q s0 b f
@[simp]def G5x(C:cT)(Q:pT)(a b c:vT)(s0:St):Prop:=(bV .sub 3 c b fun d=>nZ 3 fun e=>bC .quo 3 d 4 fun f=>bC .mul 3 f 1 fun g=>bV .add 3 b g fun h=>bC .quo 3 d 4 fun i=>bC .mul 3 i 2 fun j=>bV .add 3 b j fun l=>bC .quo 3 d 4 fun m=>bC .mul 3 m 3 fun n=>bV .add 3 b n fun o=>bC .geq 3 d 8 fun p=>cw p (bC .geq 3 d 50 fun q=>cw q (cf C 145 [a,h,e] fun r=>cf C 145 [a,l,e] fun t=>cf C 145 [a,o,e] fun u=>A9d C Q s0 a e r t u) (A9d C Q s0 a e h l o)) (B0d C Q s0 e l)) s0
def E96:=en3 105 G5x
def D5i:Code:=cp 106 [2,0]
def B8r:List Value:=a::un 5 (b::c::un 24 [])
@[simp]def F1e(C:cT)(K:kT)(I:V3)(a b c:vT):oT:=bV .lss 3 b c fun d=>cw d (oI 34 a c fun e=>oL 43 e fun f=>oI 34 a b fun g=>oL 43 g fun h=>oI 34 a b fun i=>sw 43 i f (oI 34 a c fun j=>sw 43 j h (bA 3 b fun l=>bC .sub 3 c 1 fun m=>I a l m))) (K (.exit 0) (ofL (B8r a b c)))
def D1r:=lp3 h106 D5i 0 B8r F1e (cp 106 [2,0,0])
def D36(C:cT)(Q:pT)(s0:St):A0l:=A0h 0 (kB 106 Q s0)
@[simp]theorem E6g:(D36 C Q s0) (.exit 0) (ofL (B8r a b c)) s=r0 Q s0 s:=by kernel_rfl
@[simp]def G55(C:cT)(Q:pT)(a b c:vT)(s0:St):Prop:=(bC .sub 3 c 1 fun d=>evC P C h106 D5i 0 (D36 C Q s0) (ofL (B8r a b d))) s0
def F0w:=en3 106 G55
def D7i:Code:=cp 107 [2,1,0]
def B0s:List Value:=a::b::c::un 3 (d::e::f::un 124 [])
def D6v:Code:=cp 107 [2,1,0,1,0,0,0,0]
def B95:List Value:=a::b::c::un 4 (d::e::un 124 [])
@[simp]def A4l(C:cT)(K:kT)(I:V5)(a b c d e:vT):oT:=bA 3 d fun f=>I a b c f e
@[simp]def F5r(C:cT)(K:kT)(I:V5)(a b c d e:vT):oT:=oV .lss 3 d c fun f=>gJt f a fun g=>gJt f d fun h=>gIt f 34 g h fun i=>gLt f 43 i fun j=>gJt f a fun l=>gJt f d fun m=>gOt f (binV P .sub 3 m (.int .i64 1)) fun n=>gIt f 34 l n fun o=>gLt f 43 o fun p=>wt f (fun k s=>A0u P C (fv 108) [j,p] k s) fun q=>gOt f (unV .not q) fun r=>oP f r fun t=>cw t (A4l C K I a b c d e) (K (.exit 2) (ofL (B95 a b c d e)))
def C9p:=lp5 h107 D6v 2 B95 F5r (cp 107 [2,1,0,1,0,0,0,0,0])
def D3t:Code:=cp 107 [2,1,0,1,0,4,1,1,0]
def B5s:List Value:=a::b::c::un 4 (d::e::f::un 123 [])
@[simp]def A3u(C:cT)(K:kT)(I:V6)(a b c d e f:vT):oT:=bC .sub 3 f 1 fun g=>I a b c d e g
@[simp]def A4c(C:cT)(K:kT)(I:V6)(a b c d e f:vT):oT:=oC .sub 3 f 1 fun g=>oC .sub 3 f 1 fun h=>oI 34 a h fun i=>oL 43 i fun j=>oI 34 a f fun l=>oL 43 l fun m=>oI 34 a f fun n=>sw 43 n j (oI 34 a g fun o=>sw 43 o m (A3u C K I a b c d e f))
@[simp]def A4e(C:cT)(K:kT)(I:V6)(a b c d e f:vT):oT:=oI 34 a f fun g=>oL 43 g fun h=>oC .sub 3 f 1 fun i=>oI 34 a i fun j=>oL 43 j fun l=>cf C 108 [h,l] fun m=>oM m fun n=>cw n (K (.exit 4) (ofL (B5s a b c d e f))) (A4c C K I a b c d e f)
@[simp]def E9v(C:cT)(K:kT)(I:V6)(a b c d e f:vT):oT:=bC .geq 3 f 1 fun g=>cw g (A4e C K I a b c d e f) (K (.exit 4) (ofL (B5s a b c d e f)))
def D1t:=lp6 h107 D3t 4 B5s E9v (cp 107 [2,1,0,1,0,4,1,1,0,0])
def D3o:Code:=cp 107 [2,1,0,1,0,6,1,0]
def B50:List Value:=a::b::c::un 4 (d::e::undef::f::un 122 [])
@[simp]def A3t(C:cT)(K:kT)(I:V6)(a b c d e f:vT):oT:=bA 3 f fun g=>I a b c d e g
@[simp]def A4i(C:cT)(K:kT)(I:V6)(a b c d e f:vT):oT:=oC .sub 3 f 1 fun g=>oC .sub 3 f 1 fun h=>oI 34 a h fun i=>oL 43 i fun j=>oI 34 a f fun l=>oL 43 l fun m=>oI 34 a f fun n=>sw 43 n j (oI 34 a g fun o=>sw 43 o m (A3t C K I a b c d e f))
@[simp]def A39(C:cT)(K:kT)(I:V6)(a b c d e f:vT):oT:=oI 34 a f fun g=>oL 43 g fun h=>oC .sub 3 f 1 fun i=>oI 34 a i fun j=>oL 43 j fun l=>cf C 108 [h,l] fun m=>oM m fun n=>cw n (K (.exit 6) (ofL (B50 a b c d e f))) (A4i C K I a b c d e f)
@[simp]def F2h(C:cT)(K:kT)(I:V6)(a b c d e f:vT):oT:=bV .lss 3 f c fun g=>cw g (A39 C K I a b c d e f) (K (.exit 6) (ofL (B50 a b c d e f)))
def D1u:=lp6 h107 D3o 6 B50 F2h (cp 107 [2,1,0,1,0,6,1,0,0])
@[simp]def A28(C:cT)(K:kT)(I:V6)(a b c d e f:vT):oT:=bA 3 f fun g=>I a b c d e g
def B08(C:cT)(K:kT)(I:V6):A0l:=A0h 1 (kSeq (evC P C h107 (cR (cR (cL (cL (cR (cL (cp 107 [2]))))))) 0 (A5n h107 0 (fun l s=>I (l.getD 0 undef) (l.getD 1 undef) (l.getD 2 undef) (l.getD 6 undef) (l.getD 7 undef) (l.getD 8 undef) s) K)) (A5n h107 0 (fun l s=>I (l.getD 0 undef) (l.getD 1 undef) (l.getD 2 undef) (l.getD 6 undef) (l.getD 7 undef) (l.getD 8 undef) s) K))
def C59(C:cT)(K:kT)(I:V6):A0l:=A0h 6 (B08 C K I)
@[simp]theorem E5j(I:V6):(C59 C K I) (.exit 6) (ofL (B50 a c d e f g)) s=A28 C K I a c d undef e f s:=by kernel_rfl
@[simp]def A11(C:cT)(K:kT)(I:V6)(a b c d e f:vT):oT:=bV .sub 3 c e fun g=>bC .geq 3 g 2 fun h=>cw h (bA 3 e fun i=>evC P C h107 D3o 6 (C59 C K I) (ofL (B50 a b c e f i))) (A28 C K I a b c d e f)
def C6u(C:cT)(K:kT)(I:V6):A0l:=A0h 4 (kSeq (evC P C h107 (cR (cR (cR (cR (cR (cL (cL (cR (cL (cL (cR (cL (cp 107 [2]))))))))))))) 1 (B08 C K I)) (B08 C K I))
@[simp]theorem E71(I:V6):(C6u C K I) (.exit 4) (ofL (B5s a c d e f g)) s=A11 C K I a c d undef e f s:=by kernel_rfl
@[simp]def A2c(C:cT)(K:kT)(I:V6)(a b c d e f:vT):oT:=oC .sub 3 e 1 fun g=>oC .sub 3 e 1 fun h=>oI 34 a h fun i=>oL 43 i fun j=>oI 34 a e fun l=>oL 43 l fun m=>oI 34 a e fun n=>sw 43 n j (oI 34 a g fun o=>sw 43 o m (bV .sub 3 e b fun p=>bC .geq 3 p 2 fun q=>cw q (bC .sub 3 e 1 fun r=>evC P C h107 D3t 4 (C6u C K I) (ofL (B5s a b c e f r))) (A11 C K I a b c d e f)))
@[simp]def A2b(C:cT)(K:kT)(I:V6)(a b c d e f:vT):oT:=bV .sub 3 c b fun g=>bC .lss 3 g 50 fun h=>cw h (K .ret (ofL (B0s a b c (.bool false) e f))) (A2c C K I a b c d e f)
@[simp]def A2e(C:cT)(K:kT)(I:V6)(a b c d e f:vT):oT:=bV .eql 3 e c fun g=>cw g (K .ret (ofL (B0s a b c (.bool true) e f))) (A2b C K I a b c d e f)
def C5y(C:cT)(K:kT)(I:V6):A0l:=A0h 2 (kSeq (evC P C h107 (cR (cL (cL (cR (cL (cL (cR (cL (cp 107 [2]))))))))) 1 (B08 C K I)) (B08 C K I))
@[simp]theorem E5i(I:V6):(C5y C K I) (.exit 2) (ofL (B95 a c d e f)) s=A2e C K I a c d undef e f s:=by kernel_rfl
@[simp]def A2k(C:cT)(K:kT)(I:V6)(a b c d e:vT):oT:=evC P C h107 D6v 2 (C5y C K I) (ofL (B95 a b c d e))
@[simp]def F3s(C:cT)(K:kT)(I:V6)(a b c d e f:vT):oT:=bC .lss 3 f 5 fun g=>cw g (A2k C K I a b c e f) (K (.exit 0) (ofL (B0s a b c d e f)))
def D1y:=lp6 h107 D7i 0 B0s F3s (cp 107 [2,1,0,0])
@[simp]def A2j(C:cT)(Q:pT)(s0:St):oT:=r1 Q s0 (.bool false)
def B1d:A0l:=A0h 0 (kSeq (evC P C h107 (cp 107 [3]) 0 (kB 107 Q s0)) (kB 107 Q s0))
@[simp]theorem E65:(B1d C Q s0) (.exit 0) (ofL (B0s a b c d e f)) s=A2j C Q s0 s:=by kernel_rfl
@[simp]theorem E0i:(B1d C Q s0) .ret (ofL (B0s a b c d e f)) s=r1 Q s0 d s:=by kernel_rfl
@[simp]def G74(C:cT)(Q:pT)(a b c:vT)(s0:St):Prop:=(bA 3 b fun d=>evC P C h107 D7i 0 (B1d C Q s0) (ofL (B0s a b c (.bool false) d (.int .i64 0)))) s0
def F7h:=en3 107 G74
@[simp]def G5m(C:cT)(Q:pT)(a b:vT)(s0:St):Prop:=(cf C 147 [a] fun c=>wJt c b fun d=>wt c (fun k s=>A0u P C (fv 147) [d] k s) fun e=>wOt c (unV .not e) fun f=>bP c f fun g=>wJf g a fun h=>wJf g b fun i=>wVf g .lss 43 h i fun j=>bQ g j fun l=>r1 Q s0 l) s0
def F3k:=en2 108 G5m
def D4i:Code:=cp 109 [3,0,0]
def C1b:List Value:=a::b::un 7 (c::d::un 73 [])
def D7u:Code:=cp 109 [3,0,0,0,0,0,0]
def B9x:List Value:=a::b::un 7 (c::d::un 73 [])
@[simp]def F4c(C:cT)(K:kT)(I:V4)(a b c d:vT):oT:=oV .leq 3 c d fun e=>gJt e a fun f=>gJt e b fun g=>gIt e 34 f g fun h=>gLt e 43 h fun i=>gJt e a fun j=>gJt e c fun l=>gIt e 34 j l fun m=>gLt e 43 m fun n=>wt e (fun k s=>A0u P C (fv 108) [i,n] k s) fun o=>gOt e (unV .not o) fun p=>oP e p fun q=>cw q (bA 3 c fun r=>I a b r d) (K (.exit 2) (ofL (B9x a b c d)))
def D1i:=lp4 h109 D7u 2 B9x F4c (cp 109 [3,0,0,0,0,0,0,0])
def D2v:Code:=cp 109 [3,0,0,0,1,0,0]
def B82:List Value:=a::b::un 7 (c::d::un 73 [])
@[simp]def F7r(C:cT)(K:kT)(I:V4)(a b c d:vT):oT:=oV .leq 3 c d fun e=>gJt e a fun f=>gJt e b fun g=>gIt e 34 f g fun h=>gLt e 43 h fun i=>gJt e a fun j=>gJt e d fun l=>gIt e 34 j l fun m=>gLt e 43 m fun n=>wt e (fun k s=>A0u P C (fv 108) [i,n] k s) fun o=>oP e o fun p=>cw p (bC .sub 3 d 1 fun q=>I a b c q) (K (.exit 4) (ofL (B82 a b c d)))
def B7t:=lp4 h109 D2v 4 B82 F7r (cp 109 [3,0,0,0,1,0,0,0])
def B9d(C:cT)(K:kT)(I:V4):A0l:=A0h 1 (A5n h109 0 (fun l s=>I (l.getD 0 undef) (l.getD 1 undef) (l.getD 9 undef) (l.getD 10 undef) s) K)
def D3r(C:cT)(K:kT)(I:V4):A0l:=A0h 4 (kSeq (evC P C h109 (cR (cR (cL (cL (cL (cL (cp 109 [3]))))))) 1 (B9d C K I)) (B9d C K I))
@[simp]theorem E8e(I:V4):(D3r C K I) (.exit 4) (ofL (B82 a c d e)) s=(bV .gtr 3 d e fun f=>cw f (K (.exit 0) (ofL (C1b a c d e))) (oI 34 a e fun g=>oL 43 g fun h=>oI 34 a d fun i=>oL 43 i fun j=>oI 34 a d fun m=>sw 43 m h (oI 34 a e fun n=>sw 43 n j (bA 3 d fun o=>bC .sub 3 e 1 fun p=>I a c o p)))) s:=by kernel_rfl
def C58(C:cT)(K:kT)(I:V4):A0l:=A0h 2 (kSeq (evC P C h109 (cR (cL (cL (cL (cL (cp 109 [3])))))) 1 (B9d C K I)) (B9d C K I))
@[simp]theorem E8n(I:V4):(C58 C K I) (.exit 2) (ofL (B9x a c d e)) s=evC P C h109 D2v 4 (D3r C K I) (ofL (B82 a c d e)) s:=by kernel_rfl
@[simp]def F49(C:cT)(K:kT)(I:V4)(a b c d:vT):oT:=evC P C h109 D7u 2 (C58 C K I) (ofL (B9x a b c d))
def C8o:=lp4 h109 D4i 0 C1b F49 (cp 109 [3,0,0,0])
def C7m:A0l:=A0h 0 (kSeq (evC P C h109 (cp 109 [4]) 0 (kB 109 Q s0)) (kB 109 Q s0))
@[simp]theorem E7p:(C7m C Q s0) (.exit 0) (ofL (C1b a b c d)) s=r1 Q s0 c s:=by kernel_rfl
@[simp]def G9s(C:cT)(Q:pT)(a b c d:vT)(s0:St):Prop:=(oI 34 a d fun e=>oL 43 e fun f=>oI 34 a b fun g=>oL 43 g fun h=>oI 34 a b fun i=>sw 43 i f (oI 34 a d fun j=>sw 43 j h (bA 3 b fun l=>bC .sub 3 c 1 fun m=>evC P C h109 D4i 0 (C7m C Q s0) (ofL (C1b a b l m))))) s0
def F4r:=en4 109 G9s
end
end Go.Zz
