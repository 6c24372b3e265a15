import Derived.Test.YtnghaapdoanabaaGreatDoorU0
set_option linter.all false
set_option maxRecDepth 20000
set_option linter.all false
namespace Go.Zz
open Go
noncomputable section
variable (C:cT)(K:kT)(Q:pT)(s0:St)(a b c d e f g h i j l m n o p q r t u v w x y z A B D E F G H J M N O R T U V W X Y Z a0 a1 a2 a3 a4 a5 a6 a7 a8 a9 b0 b1 b2 b3 b4 b5 b6 b7 b8 b9:vT)(s:St)
def D2m:Code:=cp 110 [3,0,0]
def C0q:List Value:=a::b::un 8 (c::d::un 156 [])
@[simp]def C4t(C:cT)(K:kT)(I:V4)(a b c d:vT):oT:=bA 3 c fun e=>I a b e d
@[simp]def F47(C:cT)(K:kT)(I:V4)(a b c d:vT):oT:=oV .leq 3 c d fun e=>gJt e a fun f=>gJt e c fun g=>gIt e 34 f g fun h=>gLt e 43 h fun i=>gJt e a fun j=>gJt e b fun l=>gIt e 34 j l fun m=>gLt e 43 m fun n=>wt e (fun k s=>A0u P C (fv 108) [i,n] k s) fun o=>oP e o fun p=>cw p (C4t C K I a b c d) (K (.exit 0) (ofL (C0q a b c d)))
def D1j:=lp4 h110 D2m 0 C0q F47 (cp 110 [3,0,0,0])
def D9j:Code:=cp 110 [4,0,0]
def C1i:List Value:=a::b::un 8 (c::d::un 156 [])
@[simp]def C5o(C:cT)(K:kT)(I:V4)(a b c d:vT):oT:=bC .sub 3 d 1 fun e=>I a b c e
@[simp]def F7z(C:cT)(K:kT)(I:V4)(a b c d:vT):oT:=oV .leq 3 c d fun e=>gJt e a fun f=>gJt e d fun g=>gIt e 34 f g fun h=>gLt e 43 h fun i=>gJt e a fun j=>gJt e b fun l=>gIt e 34 j l fun m=>gLt e 43 m fun n=>wt e (fun k s=>A0u P C (fv 108) [i,n] k s) fun o=>gOt e (unV .not o) fun p=>oP e p fun q=>cw q (C5o C K I a b c d) (K (.exit 2) (ofL (C1i a b c d)))
def B7f:=lp4 h110 D9j 2 C1i F7z (cp 110 [4,0,0,0])
def D6h:Code:=cp 110 [9,0,0]
def C0v:List Value:=a::b::un 8 (c::d::un 156 [])
def D7o:Code:=cp 110 [9,0,0,0,0,0,0]
def B9y:List Value:=a::b::un 8 (c::d::un 156 [])
@[simp]def C46(C:cT)(K:kT)(I:V4)(a b c d:vT):oT:=bA 3 c fun e=>I a b e d
@[simp]def F78(C:cT)(K:kT)(I:V4)(a b c d:vT):oT:=oV .leq 3 c d fun e=>gJt e a fun f=>gJt e c fun g=>gIt e 34 f g fun h=>gLt e 43 h fun i=>gJt e a fun j=>gJt e b fun l=>gIt e 34 j l fun m=>gLt e 43 m fun n=>wt e (fun k s=>A0u P C (fv 108) [i,n] k s) fun o=>oP e o fun p=>cw p (C46 C K I a b c d) (K (.exit 6) (ofL (B9y a b c d)))
def C9r:=lp4 h110 D7o 6 B9y F78 (cp 110 [9,0,0,0,0,0,0,0])
def D5o:Code:=cp 110 [9,0,0,0,1,0,0]
def C0r:List Value:=a::b::un 8 (c::d::un 156 [])
@[simp]def C47(C:cT)(K:kT)(I:V4)(a b c d:vT):oT:=bC .sub 3 d 1 fun e=>I a b c e
@[simp]def F61(C:cT)(K:kT)(I:V4)(a b c d:vT):oT:=oV .leq 3 c d fun e=>gJt e a fun f=>gJt e d fun g=>gIt e 34 f g fun h=>gLt e 43 h fun i=>gJt e a fun j=>gJt e b fun l=>gIt e 34 j l fun m=>gLt e 43 m fun n=>wt e (fun k s=>A0u P C (fv 108) [i,n] k s) fun o=>gOt e (unV .not o) fun p=>oP e p fun q=>cw q (C47 C K I a b c d) (K (.exit 8) (ofL (C0r a b c d)))
def B61:=lp4 h110 D5o 8 C0r F61 (cp 110 [9,0,0,0,1,0,0,0])
@[simp]def C5k(C:cT)(K:kT)(I:V4)(a b c d:vT):oT:=oI 34 a d fun e=>oL 43 e fun f=>oI 34 a c fun g=>oL 43 g fun h=>oI 34 a c fun i=>sw 43 i f (oI 34 a d fun j=>sw 43 j h (bA 3 c fun l=>bC .sub 3 d 1 fun m=>I a b l m))
@[simp]def C4f(C:cT)(K:kT)(I:V4)(a b c d:vT):oT:=bV .gtr 3 c d fun e=>cw e (K (.exit 4) (ofL (C0v a b c d))) (C5k C K I a b c d)
def C0p(C:cT)(K:kT)(I:V4):A0l:=A0h 5 (A5n h110 4 (fun l s=>I (l.getD 0 undef) (l.getD 1 undef) (l.getD 10 undef) (l.getD 11 undef) s) K)
def D6x(C:cT)(K:kT)(I:V4):A0l:=A0h 8 (kSeq (evC P C h110 (cR (cR (cL (cL (cL (cL (cp 110 [9]))))))) 5 (C0p C K I)) (C0p C K I))
@[simp]theorem E6i(I:V4):(D6x C K I) (.exit 8) (ofL (C0r a c d e)) s=C4f C K I a c d e s:=by kernel_rfl
@[simp]def B9g(C:cT)(K:kT)(I:V4)(a b c d:vT):oT:=evC P C h110 D5o 8 (D6x C K I) (ofL (C0r a b c d))
def C65(C:cT)(K:kT)(I:V4):A0l:=A0h 6 (kSeq (evC P C h110 (cR (cL (cL (cL (cL (cp 110 [9])))))) 5 (C0p C K I)) (C0p C K I))
@[simp]theorem E7l(I:V4):(C65 C K I) (.exit 6) (ofL (B9y a c d e)) s=B9g C K I a c d e s:=by kernel_rfl
@[simp]def F1f(C:cT)(K:kT)(I:V4)(a b c d:vT):oT:=evC P C h110 D7o 6 (C65 C K I) (ofL (B9y a b c d))
def D1c:=lp4 h110 D6h 4 C0v F1f (cp 110 [9,0,0,0])
@[simp]def C1l(C:cT)(Q:pT)(s0:St)(a b c:vT):oT:=oI 34 a b fun d=>oL 43 d fun e=>oI 34 a c fun f=>oL 43 f fun g=>oI 34 a c fun h=>sw 43 h e (oI 34 a b fun i=>sw 43 i g (r2 Q s0 c (.bool false)))
def C6n:A0l:=A0h 4 (kSeq (evC P C h110 (cp 110 [10]) 0 (kB 110 Q s0)) (kB 110 Q s0))
@[simp]theorem E75:(C6n C Q s0) (.exit 4) (ofL (C0v a b c d)) s=C1l C Q s0 a b d s:=by kernel_rfl
@[simp]def B9e:oT:=oI 34 a d fun e=>oL 43 e fun f=>oI 34 a c fun g=>oL 43 g fun h=>oI 34 a c fun i=>sw 43 i f (oI 34 a d fun j=>sw 43 j h (bA 3 c fun l=>bC .sub 3 d 1 fun m=>evC P C h110 D6h 4 (C6n C Q s0) (ofL (C0v a b l m))))
@[simp]def B9c:oT:=bV .gtr 3 c d fun e=>cw e (oI 34 a b fun f=>oL 43 f fun g=>oI 34 a d fun h=>oL 43 h fun i=>oI 34 a d fun j=>sw 43 j g (oI 34 a b fun l=>sw 43 l i (r2 Q s0 d (.bool true)))) (B9e C Q s0 a b c d)
def C5t:A0l:=A0h 2 (kSeq (evC P C h110 (cp 110 [5]) 0 (kB 110 Q s0)) (kB 110 Q s0))
@[simp]theorem E60:(C5t C Q s0) (.exit 2) (ofL (C1i a b c d)) s=B9c C Q s0 a b c d s:=by kernel_rfl
@[simp]def B9p:oT:=evC P C h110 D9j 2 (C5t C Q s0) (ofL (C1i a b c d))
def C7b:A0l:=A0h 0 (kSeq (evC P C h110 (cp 110 [4]) 0 (kB 110 Q s0)) (kB 110 Q s0))
@[simp]theorem E78:(C7b C Q s0) (.exit 0) (ofL (C0q a b c d)) s=B9p C Q s0 a b c d s:=by kernel_rfl
@[simp]def G96(C:cT)(Q:pT)(a b c d:vT)(s0:St):Prop:=(oI 34 a d fun e=>oL 43 e fun f=>oI 34 a b fun g=>oL 43 g fun h=>oI 34 a b fun i=>sw 43 i f (oI 34 a d fun j=>sw 43 j h (bA 3 b fun l=>bC .sub 3 c 1 fun m=>evC P C h110 D2m 0 (C7b C Q s0) (ofL (C0q a b l m))))) s0
def F1h:=en4 110 G96
def D73 : ByteArray := bAr [0, 1, 2, 2, 3, 3, 3, 3, 4, 4, 4, 4, 4, 4, 4, 4, 5, 5, 5, 5, 5, 5, 5, 5, 5, 5, 5, 5, 5, 5, 5, 5, 6, 6, 6, 6, 6, 6, 6, 6, 6, 6, 6, 6, 6, 6, 6, 6, 6, 6, 6, 6, 6, 6, 6, 6, 6, 6, 6, 6, 6, 6, 6, 6, 7, 7, 7, 7, 7, 7, 7, 7, 7, 7, 7, 7, 7, 7, 7, 7, 7, 7, 7, 7, 7, 7, 7, 7, 7, 7, 7, 7, 7, 7, 7, 7, 7, 7, 7, 7, 7, 7, 7, 7, 7, 7, 7, 7, 7, 7, 7, 7, 7, 7, 7, 7, 7, 7, 7, 7, 7, 7, 7, 7, 7, 7, 7, 7, 8, 8, 8, 8, 8, 8, 8, 8, 8, 8, 8, 8, 8, 8, 8, 8, 8, 8, 8, 8, 8, 8, 8, 8, 8, 8, 8, 8, 8, 8, 8, 8, 8, 8, 8, 8, 8, 8, 8, 8, 8, 8, 8, 8, 8, 8, 8, 8, 8, 8, 8, 8, 8, 8, 8, 8, 8, 8, 8, 8, 8, 8, 8, 8, 8, 8, 8, 8, 8, 8, 8, 8, 8, 8, 8, 8, 8, 8, 8, 8, 8, 8, 8, 8, 8, 8, 8, 8, 8, 8, 8, 8, 8, 8, 8, 8, 8, 8, 8, 8, 8, 8, 8, 8, 8, 8, 8, 8, 8, 8, 8, 8, 8, 8, 8, 8, 8, 8, 8, 8, 8, 8, 8, 8, 8, 8, 8, 8]
@[simp]def A8w(C:cT)(Q:pT)(s0:St)(a b:vT):oT:=bR 43 5 a fun c=>bO (B3l (B5a P 9) (A46 P 9) (.string D73) c) fun d=>bR 5 3 d fun e=>bV .add 3 b e fun f=>r1 Q s0 f
@[simp]def B04:oT:=bV .geq 43 a (.int .u64 256) fun c=>cw c (bV .shr 43 a (.int .u64 8) fun d=>bC .add 3 b 8 fun e=>A8w C Q s0 d e) (A8w C Q s0 a b)
@[simp]def B05:oT:=bV .geq 43 a (.int .u64 65536) fun c=>cw c (bV .shr 43 a (.int .u64 16) fun d=>bC .add 3 b 16 fun e=>B04 C Q s0 d e) (B04 C Q s0 a b)
@[simp]def G4n(C:cT)(Q:pT)(a:vT)(s0:St):Prop:=(bV .geq 43 a (.int .u64 4294967296) fun b=>cw b (bV .shr 43 a (.int .u64 32) fun c=>B05 C Q s0 c (.int .i64 32)) (B05 C Q s0 a (.int .i64 0))) s0
def F4b:=en1 112 G4n
@[simp]def G41(C:cT)(Q:pT)(a b:vT)(s0:St):Prop:=(bR 47 9 a fun c=>bR 47 9 b fun d=>bV .eql 9 c d fun e=>r1 Q s0 e) s0
def F3b:=en2 113 G41
@[simp]def G7q(C:cT)(Q:pT)(a:vT)(s0:St):Prop:=(nB a fun b=>bF 46 0 b fun c=>bL 3 c fun d=>cf C 74 [d,(.int .i64 15)] fun e=>wFt e 46 1 b fun f=>wLt e 3 f fun g=>wt e (fun k s=>A0u P C (fv 74) [g,(.int .i64 7)] k s) fun h=>bP e h fun i=>wFt i 46 2 b fun j=>wLt i 3 j fun l=>wt i (fun k s=>A0u P C (fv 74) [l,(.int .i64 255)] k s) fun m=>bP i m fun n=>r1 Q s0 n) s0
def F2m:=en1 114 G7q
def D7a:Code:=cp 115 [2,0]
def B2g:List Value:=a::un 10 (b::c::d::un 11 [])
@[simp]def F2u(C:cT)(K:kT)(I:V4)(a b c d:vT):oT:=bV .lss 3 d c fun e=>cw e (bI 144 b d fun f=>bL 147 f fun g=>nZ 147 fun h=>sw 147 h g (bF 147 0 h fun i=>bL 43 i fun j=>bF 147 1 h fun l=>bL 3 l fun m=>A0u P C a [j,m] fun n=>bM n fun o=>cw o (K .ret (ofL (B2g a b c d))) (bA 3 d fun p=>I a b c p))) (K (.exit 0) (ofL (B2g a b c d)))
def D1x:=lp4 h115 D7a 0 B2g F2u (cp 115 [2,0,0])
def C42(C:cT)(Q:pT)(s0:St):A0l:=A0h 0 (kB 115 Q s0)
@[simp]theorem E7w:(C42 C Q s0) (.exit 0) (ofL (B2g a b c d)) s=r0 Q s0 s:=by kernel_rfl
@[simp]theorem E0b:(C42 C Q s0) .ret (ofL (B2g a b c d)) s=r0 Q s0 s:=by kernel_rfl
@[simp]def G9p(C:cT)(Q:pT)(a b:vT)(s0:St):Prop:=(bL 79 b fun c=>bZ 79 c fun d=>cw d (r0 Q s0) (bL 79 b fun e=>bN e fun f=>bF 149 0 f fun g=>bL 144 g fun h=>cf C 70 [h] fun i=>bH 144 i fun j=>evC P C h115 D7a 0 (C42 C Q s0) (ofL (B2g a i j (.int .i64 0))))) s0
def F5z:=en2 115 G9p
@[simp]def G8l(C:cT)(Q:pT)(a b:vT)(s0:St):Prop:=(cf C 95 [a,b] fun c=>bE c 0 fun d=>bE c 1 fun e=>bM e fun f=>cw f (r2 Q s0 (.int .i64 0) (.bool false)) (bN a fun g=>bF 149 0 g fun h=>bL 144 h fun i=>bI 144 i d fun j=>bF 147 1 j fun l=>bL 3 l fun m=>r2 Q s0 m (.bool true))) s0
def F3p:=en2 116 G8l
@[simp]def G3i(C:cT)(Q:pT)(a:vT)(s0:St):Prop:=(bH 28 a fun b=>bR 3 138 b fun c=>cf C 67 [c] fun d=>cf C 148 [a,(.int .i64 0),b,d] fun _=>r0 Q s0) s0
def F5f:=en1 117 G3i
def D9b:Code:=cp 118 [2,1,0]
def B21:List Value:=a::undef::b::c::un 57 []
def D2y:Code:=cp 118 [2,1,0,1,0,1,1,1,0]
def B96:List Value:=a::undef::undef::b::c::d::un 55 []
@[simp]def D26(C:cT)(K:kT)(I:V4)(a b c d:vT):oT:=bA 3 d fun e=>I a b c e
@[simp]def F4w(C:cT)(K:kT)(I:V4)(a b c d:vT):oT:=bH 28 c fun e=>bV .lss 3 d e fun f=>cw f (oI 28 c d fun g=>oL 3 g fun h=>oC .sub 3 d 1 fun i=>oI 28 c i fun j=>oL 3 j fun l=>oV .neq 3 h l fun m=>cw m (bI 28 c d fun n=>bL 3 n fun o=>bI 28 a b fun p=>sw 3 p o (bA 3 b fun q=>D26 C K I a q c d)) (D26 C K I a b c d)) (K (.exit 2) (ofL (B96 a b c d)))
def D1q:=lp4 h118 D2y 2 B96 F4w (cp 118 [2,1,0,1,0,1,1,1,0,0])
def D62(C:cT)(K:kT)(I:V3):A0l:=A0h 1 (kSeq (evC P C h118 (cR (cR (cL (cL (cR (cL (cp 118 [2]))))))) 0 (A5n h118 0 (fun l s=>I (l.getD 0 undef) (l.getD 2 undef) (l.getD 3 undef) s) K)) (A5n h118 0 (fun l s=>I (l.getD 0 undef) (l.getD 2 undef) (l.getD 3 undef) s) K))
def D3f(C:cT)(K:kT)(I:V3):A0l:=A0h 2 (kSeq (evC P C h118 (cR (cR (cL (cR (cL (cL (cR (cL (cL (cR (cL (cp 118 [2])))))))))))) 1 (D62 C K I)) (D62 C K I))
@[simp]theorem E5w(I:V3):(D3f C K I) (.exit 2) (ofL (B96 a c d e)) s=(bS (fun s=>slcV P 28 a (some c) none none s) fun f=>A6d P 28 f fun _=>bS (fun s=>slcV P 28 a none (some c) none s) fun g=>K .ret (ofL (B21 a g c))) s:=by kernel_rfl
@[simp]def F7m(C:cT)(K:kT)(I:V3)(a b c:vT):oT:=bH 28 a fun d=>bV .lss 3 c d fun e=>cw e (oI 28 a c fun f=>oL 3 f fun g=>oC .sub 3 c 1 fun h=>oI 28 a h fun i=>oL 3 i fun j=>oV .eql 3 g j fun l=>cw l (bS (fun s=>slcV P 28 a (some c) none none s) fun m=>evC P C h118 D2y 2 (D3f C K I) (ofL (B96 a c m (.int .i64 1)))) (bA 3 c fun n=>I a b n)) (K (.exit 0) (ofL (B21 a b c)))
def C88:=lp3 h118 D9b 0 B21 F7m (cp 118 [2,1,0,0])
def C0s:A0l:=A0h 0 (kSeq (evC P C h118 (cp 118 [3]) 0 (kB 118 Q s0)) (kB 118 Q s0))
@[simp]theorem E8j:(C0s C Q s0) (.exit 0) (ofL (B21 a b c)) s=r1 Q s0 a s:=by kernel_rfl
@[simp]theorem E0k:(C0s C Q s0) .ret (ofL (B21 a b c)) s=r1 Q s0 b s:=by kernel_rfl
@[simp]def G29(C:cT)(Q:pT)(a:vT)(s0:St):Prop:=(bH 28 a fun b=>bC .lss 3 b 2 fun c=>cw c (r1 Q s0 a) (evC P C h118 D9b 0 (C0s C Q s0) (ofL (B21 a (.slice none 0 0) (.int .i64 1))))) s0
def F5y:=en1 118 G29
@[simp]def H1a(C:cT)(Q:pT)(a:vT)(s0:St):Prop:=(cf C 149 [(.slice none 0 0),a] fun b=>r1 Q s0 b) s0
def F1p:=en1 119 H1a
def D32:Code:=cp 120 [1,0]
def B2y:List Value:=a::un 4 (b::un 8 [])
@[simp]def E9e(C:cT)(K:kT)(I:V2)(a b:vT):oT:=B28 false b fun c=>bE c 0 fun d=>cw d (A7k b fun e=>bE e 0 fun f=>A0u P C a [f] fun g=>bM g fun h=>cw h (K .ret (ofL (B2y a b))) (I a b)) (K (.exit 0) (ofL (B2y a b)))
def D0i:=lp2 h120 D32 0 B2y E9e (cp 120 [1,0,0])
def C4c(C:cT)(Q:pT)(s0:St):A0l:=A0h 0 (kB 120 Q s0)
@[simp]theorem E5k:(C4c C Q s0) (.exit 0) (ofL (B2y a b)) s=r0 Q s0 s:=by kernel_rfl
@[simp]theorem D9z:(C4c C Q s0) .ret (ofL (B2y a b)) s=r0 Q s0 s:=by kernel_rfl
@[simp]def G3r(C:cT)(Q:pT)(a b:vT)(s0:St):Prop:=(bL 158 b fun c=>A75 (A22 P 158) c fun d=>evC P C h120 D32 0 (C4c C Q s0) (ofL (B2y a d))) s0
def F46:=en2 120 G3r
@[simp]def G9d(C:cT)(Q:pT)(a:vT)(s0:St):Prop:=(bC .geq 3 a 1 fun b=>wJt b a fun c=>wCt b .leq 3 c 1073741824 fun d=>bP b d fun e=>r1 Q s0 e) s0
def F0u:=en1 121 G9d
@[simp]def G5j(C:cT)(Q:pT)(a b:vT)(s0:St):Prop:=(cf C 116 [a,b] fun c=>bE c 0 fun d=>bE c 1 fun e=>cf C 57 [a,b] fun f=>bE f 0 fun g=>bE f 1 fun h=>bM h fun i=>cw i (r4 Q s0 d (.int .i64 0) e (.bool true)) (cf C 116 [a,g] fun j=>bE j 0 fun l=>bE j 1 fun _=>r4 Q s0 d l e (.bool false))) s0
def F4s:=en2 122 G5j
def D7h:Code:=cp 123 [1,1,0]
def B2q:List Value:=a::b::undef::undef::c::undef::undef::d::e::un 10 []
@[simp]def F6k(C:cT)(K:kT)(I:V5)(a b c d e:vT):oT:=bV .lss 3 e d fun f=>cw f (bI 34 a e fun g=>bL 43 g fun h=>bV .eql 43 b h fun i=>cw i (K .ret (ofL (B2q a b e d e))) (bA 3 e fun j=>I a b c d j)) (K (.exit 0) (ofL (B2q a b c d e)))
def D05:=lp5 h123 D7h 0 B2q F6k (cp 123 [1,1,0,0])
def C27:A0l:=A0h 0 (kSeq (evC P C h123 (cp 123 [2]) 0 (kB 123 Q s0)) (kB 123 Q s0))
@[simp]theorem E87:(C27 C Q s0) (.exit 0) (ofL (B2q a b c d e)) s=r1 Q s0 (.int .i64 (-1)) s:=by kernel_rfl
@[simp]theorem E0e:(C27 C Q s0) .ret (ofL (B2q a b c d e)) s=r1 Q s0 c s:=by kernel_rfl
@[simp]def H0f(C:cT)(Q:pT)(a b:vT)(s0:St):Prop:=(bH 34 a fun c=>evC P C h123 D7h 0 (C27 C Q s0) (ofL (B2q a b (.int .i64 0) c (.int .i64 0)))) s0
def F22:=en2 123 H0f
@[simp]def G6m(C:cT)(Q:pT)(a b:vT)(s0:St):Prop:=(nB b fun c=>bL 204 c fun d=>cf C 150 [a,d] fun e=>bE e 0 fun f=>bE e 1 fun _=>bL 204 c fun g=>cf C 151 [f,g] fun h=>bE h 0 fun i=>bE h 1 fun j=>cw j (bN f fun l=>bF 233 1 l fun m=>bL 34 m fun n=>bI 34 n i fun o=>bL 43 o fun p=>r2 Q s0 p (.bool true)) (r2 Q s0 (.int .u64 0) (.bool false))) s0
def F11:=en2 124 G6m
@[simp]def H0u(C:cT)(Q:pT)(a b:vT)(s0:St):Prop:=(nB b fun c=>oL 204 c fun d=>cf C 153 [a] fun e=>kL 204 c d (cf C 152 [e,d] fun f=>oE f 0 fun g=>oE f 1 fun h=>bM h fun i=>cw i (r1 Q s0 a) (cf C 154 [a] fun j=>bC .sub 3 j 1 fun l=>bO (A0r P 201 #[(0,g),(1,l)]) fun m=>nB m fun n=>r1 Q s0 n))) s0
def F21:=en2 125 H0u
@[simp]def G6z(C:cT)(Q:pT)(a b c:vT)(s0:St):Prop:=(bH 144 a fun d=>bS (fun s=>slcV P 144 a (some b) (some c) (some d) s) fun _=>bV .eql 3 b c fun e=>cw e (r1 Q s0 a) (bH 144 a fun f=>oS (fun s=>slcV P 144 a none (some b) none s) fun g=>oS (fun s=>slcV P 144 a (some c) none none s) fun h=>apdW P (A0e P 144) 144 g h fun i=>bH 144 i fun j=>bS (fun s=>slcV P 144 i (some j) (some f) none s) fun l=>A6d P 144 l fun _=>r1 Q s0 i)) s0
def F1z:=en3 126 G6z
@[simp]def G14(C:cT)(Q:pT)(a b:vT)(s0:St):Prop:=(nB b fun c=>bN a fun d=>bF 134 0 d fun e=>bL 132 e fun f=>bO (mkFn 156 #[] #[c]) fun g=>cf C 155 [f,g] fun h=>r1 Q s0 h) s0
def E9x:=en2 127 G14
@[simp]def G3s(C:cT)(Q:pT)(a b c:vT)(s0:St):Prop:=(bH 132 a fun d=>bS (fun s=>slcV P 132 a (some b) (some c) (some d) s) fun _=>bV .eql 3 b c fun e=>cw e (r1 Q s0 a) (bH 132 a fun f=>oS (fun s=>slcV P 132 a none (some b) none s) fun g=>oS (fun s=>slcV P 132 a (some c) none none s) fun h=>apdW P (A0e P 132) 132 g h fun i=>bH 132 i fun j=>bS (fun s=>slcV P 132 i (some j) (some f) none s) fun l=>A6d P 132 l fun _=>r1 Q s0 i)) s0
def F5w:=en3 128 G3s
def D68:Code:=cp 129 [3,0,0]
def C1j:List Value:=a::b::c::un 5 (d::e::f::un 38 [])
@[simp]def F74(C:cT)(K:kT)(I:V6)(a b c d e f:vT):oT:=bV .lss 3 e f fun g=>cw g (bV .add 3 e f fun h=>bR 3 138 h fun i=>bV .shr 138 i (.int .u64 1) fun j=>bR 138 3 j fun l=>bI 144 a l fun m=>bL 147 m fun n=>A0u P C c [n,b] fun o=>bC .lss 3 o 0 fun p=>cw p (bA 3 l fun q=>I a b c d q f) (I a b c d e l)) (K (.exit 0) (ofL (C1j a b c d e f)))
def C9a:=lp6 h129 D68 0 C1j F74 (cp 129 [3,0,0,0])
def D5k:A0l:=A0h 0 (kSeq (evC P C h129 (cp 129 [4]) 0 (kB 129 Q s0)) (kB 129 Q s0))
@[simp]theorem E83:(D5k C Q s0) (.exit 0) (ofL (C1j a b c d e f)) s=(bV .lss 3 e d fun g=>wJt g c fun h=>wJt g a fun i=>wJt g e fun j=>wIt g 144 i j fun l=>wLt g 147 l fun m=>wJt g b fun n=>wt g (fun k s=>A0u P C h [m,n] k s) fun o=>wCt g .eql 3 o 0 fun p=>bP g p fun q=>r2 Q s0 e q) s:=by kernel_rfl
@[simp]def G8e(C:cT)(Q:pT)(a b c:vT)(s0:St):Prop:=(bH 144 a fun d=>evC P C h129 D68 0 (D5k C Q s0) (ofL (C1j a b c d (.int .i64 0) d))) s0
def F63:=en3 129 G8e
@[simp]def G3k(C:cT)(Q:pT)(a b:vT)(s0:St):Prop:=(nB a fun c=>bF 147 0 c fun d=>bL 43 d fun e=>bV .lss 43 e b fun f=>cw f (r1 Q s0 (.int .i64 (-1))) (bF 147 0 c fun g=>bL 43 g fun h=>bV .gtr 43 h b fun i=>cw i (r1 Q s0 (.int .i64 1)) (r1 Q s0 (.int .i64 0)))) s0
def F28:=en2 130 G3k
@[simp]def G7r(C:cT)(Q:pT)(a:vT)(s0:St):Prop:=(cf C 157 [(.slice none 0 0),a] fun b=>r1 Q s0 b) s0
def F64:=en1 131 G7r
def D88:Code:=cp 132 [1,0]
def B18:List Value:=a::un 4 (b::un 8 [])
@[simp]def F3t(C:cT)(K:kT)(I:V2)(a b:vT):oT:=B28 false b fun c=>bE c 0 fun d=>cw d (A7k b fun e=>bE e 0 fun f=>A0u P C a [f] fun g=>bM g fun h=>cw h (K .ret (ofL (B18 a b))) (I a b)) (K (.exit 0) (ofL (B18 a b)))
def D1l:=lp2 h132 D88 0 B18 F3t (cp 132 [1,0,0])
def C3k(C:cT)(Q:pT)(s0:St):A0l:=A0h 0 (kB 132 Q s0)
@[simp]theorem E7q:(C3k C Q s0) (.exit 0) (ofL (B18 a b)) s=r0 Q s0 s:=by kernel_rfl
@[simp]theorem E0r:(C3k C Q s0) .ret (ofL (B18 a b)) s=r0 Q s0 s:=by kernel_rfl
@[simp]def G5w(C:cT)(Q:pT)(a b:vT)(s0:St):Prop:=(bL 117 b fun c=>A75 (A22 P 117) c fun d=>evC P C h132 D88 0 (C3k C Q s0) (ofL (B18 a d))) s0
def F24:=en2 132 G5w
def D3w:Code:=cp 133 [2,0,0]
def B4x:List Value:=a::b::un 3 (c::un 25 [])
@[simp]def F4v(C:cT)(K:kT)(I:V3)(a b c:vT):oT:=bH 34 c fun d=>bC .lss 3 d 4 fun e=>cw e (cf C 158 [a,b] fun f=>bE f 0 fun g=>bE f 1 fun h=>nZ 49 fun i=>sw 49 i g (bM h fun j=>wFf j 49 0 i fun l=>wLf j 3 l fun m=>wCf j .eql 3 m 1 fun n=>bQ j n fun o=>cw o (K (.exit 0) (ofL (B4x a b c))) (bF 49 4 i fun p=>bL 43 p fun q=>newW (bslN (A0e P 34) 1 #[(0,q)]) fun r=>apdW P (A0e P 34) 34 c r fun t=>I a q t))) (K (.exit 0) (ofL (B4x a b c)))
def D1w:=lp3 h133 D3w 0 B4x F4v (cp 133 [2,0,0,0])
def D9k:A0l:=A0h 0 (kSeq (evC P C h133 (cp 133 [3]) 0 (kB 133 Q s0)) (kB 133 Q s0))
@[simp]theorem E8m:(D9k C Q s0) (.exit 0) (ofL (B4x a b c)) s=r1 Q s0 c s:=by kernel_rfl
@[simp]def G3w(C:cT)(Q:pT)(a b:vT)(s0:St):Prop:=(fun s0=>evC P C h133 D3w 0 (D9k C Q s0) (ofL (B4x a b (.slice none 0 0))) s0) s0
def F0t:=en2 133 G3w
@[simp]def G81(C:cT)(Q:pT)(a:vT)(s0:St):Prop:=(cf C 69 [a] fun b=>nZ 140 fun c=>sw 140 c b (bO (mkFn 159 #[] #[c]) fun d=>r1 Q s0 d)) s0
def E9w:=en1 134 G81
@[simp]def G8c(C:cT)(Q:pT)(a b c:vT)(s0:St):Prop:=(nB b fun d=>bZ 78 a fun e=>wJf e c fun f=>wVf e .eql 43 f (.int .u64 18446744073709551615) fun g=>bQ e g fun h=>cw h (r2 Q s0 (.int .u64 0) (.bool false)) (oN a fun i=>oF 143 0 i fun j=>oL 140 j fun l=>oL 46 d fun m=>oV .add 43 c (.int .u64 1) fun n=>oO (A0r P 204 #[(0,m),(1,n)]) fun o=>mw (B40 (A2r P 204)) (cf C 161 [l,o] fun p=>oE p 0 fun q=>oE p 1 fun _=>oE p 2 fun r=>nZ 204 fun t=>sw 204 t q (bM r fun u=>wFf u 204 0 t fun v=>wLf u 46 v fun w=>wLf u 46 d fun x=>wVf u .neq 46 w x fun y=>bQ u y fun z=>cw z (r2 Q s0 (.int .u64 0) (.bool false)) (bF 204 1 t fun A=>bL 43 A fun B=>r2 Q s0 B (.bool true)))))) s0
def F73:=en3 135 G8c
@[simp]def G9c(C:cT)(Q:pT)(a b:vT)(s0:St):Prop:=(cf C 65 [a,b] fun c=>bC .geq 3 c 0 fun d=>r1 Q s0 d) s0
def F4m:=en2 136 G9c
@[simp]def G97(C:cT)(Q:pT)(a b c d e:vT)(s0:St):Prop:=(bL 43 b fun f=>bV .geq 43 a f fun g=>wJt g a fun h=>wFt g 204 1 c fun i=>wLt g 43 i fun j=>wVt g .geq 43 h j fun l=>bP g l fun m=>wLt m 4 d fun n=>wOt m (unV .not n) fun o=>wJt m o fun p=>wJf p a fun q=>wLf p 43 e fun r=>wVf p .lss 43 q r fun t=>wOt m (A6r p (.bool true) t) fun u=>bP m u fun v=>r1 Q s0 v) s0
def F35:=en5 137 G97
@[simp]def G8b(C:cT)(Q:pT)(a:vT)(s0:St):Prop:=(cf C 96 [a] fun b=>bC .eql 3 b 0 fun c=>cw c (r2 Q s0 (.int .u64 0) (.bool false)) (oN a fun d=>oF 149 0 d fun e=>oL 144 e fun f=>oN a fun g=>oF 149 0 g fun h=>oL 144 h fun i=>oH 144 i fun j=>oC .sub 3 j 1 fun l=>oI 144 f l fun m=>oF 147 0 m fun n=>oL 43 n fun o=>r2 Q s0 o (.bool true))) s0
def F5a:=en1 138 G8b
@[simp]def G5n(C:cT)(Q:pT)(a b c d:vT)(s0:St):Prop:=(nB a fun e=>cf C 116 [b,c] fun f=>bE f 0 fun _=>bE f 1 fun g=>wJt g d fun h=>wLt g 76 e fun i=>wJt g b fun j=>wJt g c fun l=>wt g (fun k s=>A0u P C (fv 162) [i,j,l] k s) fun m=>wVt g .lss 3 h m fun n=>bP g n fun o=>r1 Q s0 o) s0
def F58:=en4 139 G5n
@[simp]def H0v(C:cT)(Q:pT)(a b c d:vT)(s0:St):Prop:=(nB a fun e=>nB b fun f=>bF 112 2 e fun g=>bL 81 g fun h=>cf C 164 [h,c,d] fun i=>bO (mkFn 165 #[] #[f]) fun j=>cf C 163 [i,j] fun l=>r1 Q s0 l) s0
def F4y:=en4 140 H0v
def A3j:Code:=cp 141 [2,1,0,0]
def A3k:Code:=cp 141 [2,1,1]
def A4g:Array Tmp:=#[10]
def A9x:List Value:=undef::a::undef::b::un 23 []
@[simp]def C4k(C:cT)(Q:pT)(b:Nat)(L:List vT)(a c d:vT):oT:=bL 80 a fun e=>cf C 166 [e,d] fun f=>bE f 0 fun _=>bE f 1 fun g=>bE f 2 fun h=>cw h (bL 34 c fun i=>newW (bslN (A0e P 34) 1 #[(0,g)]) fun j=>apdW P (A0e P 34) 34 i j fun m=>sw 34 c m fun s=>s.heap b=some (.loop L A4g A3j A3k .busy none)∧Q (.bool true) (s.put b (.loop L A4g A3j A3k .ready none))) (fun s=>s.heap b=some (.loop L A4g A3j A3k .busy none)∧Q (.bool true) (s.put b (.loop L A4g A3j A3k .ready none)))
@[simp]def D1m(C:cT)(Q:pT)(b:Nat)(L:List vT)(a c y0:vT):oT:=fun s=>s.heap b=some (.loop L A4g A3j A3k .ready none)∧C4k C Q b L a c y0 (s.put b (.loop L A4g A3j A3k .busy none))
def B6r{a c}:=rf1 h141 A3j A3k 0 27 A4g (A9x a c) (fun C Q b y=>D1m C Q b (A9x a c) a c y) rfl
def D9p:A0l:=A0h 0 (kSeq (evC P C h141 (cp 141 [3]) 0 (kB 141 Q s0)) (kB 141 Q s0))
@[simp]theorem C2z:(D9p C Q s0) .normal (ofL (A9x a b)) s=(bL 34 b fun c=>cf C 34 [c] fun _=>bL 34 b fun d=>cf C 35 [d] fun e=>r1 Q s0 e) s:=by kernel_rfl
@[simp]def G69(C:cT)(Q:pT)(a:vT)(s0:St):Prop:=(nB a fun b=>nZ 34 fun c=>bL 80 b fun d=>cf C 29 [d] fun e=>rfW P C 27 (A9x b c) A4g A3j A3k (evC P C h141 A3j 0) (evC P C h141 A3k 0) (D9p C Q s0) e) s0
def F66:=en1 141 G69
def D4e:Code:=cp 142 [1,0]
def B2d:List Value:=a::undef::b::c::un 4 (d::un 67 [])
@[simp]def B01(C:cT)(K:kT)(I:V4)(a b c d e:vT):oT:=oV .add 3 c d fun f=>oV .add 3 c e fun g=>oV .add 3 c e fun h=>oI 34 a h fun i=>oL 43 i fun j=>oV .add 3 c d fun l=>oI 34 a l fun m=>oL 43 m fun n=>oI 34 a f fun o=>sw 43 o j (oI 34 a g fun p=>sw 43 p n (I a b c e))
@[simp]def A79(C:cT)(K:kT)(I:V4)(a b c d e:vT):oT:=oV .add 3 c d fun f=>oI 34 a f fun g=>oL 43 g fun h=>oV .add 3 c e fun i=>oI 34 a i fun j=>oL 43 j fun l=>cf C 108 [h,l] fun m=>oM m fun n=>cw n (K .ret (ofL (B2d a b c d))) (B01 C K I a b c d e)
@[simp]def B0k(C:cT)(K:kT)(I:V4)(a b c d e:vT):oT:=oA 3 e fun f=>oV .lss 3 f b fun g=>gJt g a fun h=>gJt g c fun i=>gJt g e fun j=>gOt g (binV P .add 3 i j) fun l=>gIt g 34 h l fun m=>gLt g 43 m fun n=>gJt g a fun o=>gJt g c fun p=>gJt g e fun q=>gOt g (binV P .add 3 p q) fun r=>gOt g (binV P .add 3 r (.int .i64 1)) fun t=>gIt g 34 o t fun u=>gLt g 43 u fun v=>wt g (fun k s=>A0u P C (fv 108) [n,v] k s) fun w=>oP g w fun x=>cw x (bA 3 e fun y=>A79 C K I a b c d y) (A79 C K I a b c d e)
@[simp]def F7w(C:cT)(K:kT)(I:V4)(a b c d:vT):oT:=bV .mul 3 (.int .i64 2) d fun e=>bA 3 e fun f=>bV .geq 3 f b fun g=>cw g (K (.exit 0) (ofL (B2d a b c d))) (B0k C K I a b c d f)
def B7m:=lp4 h142 D4e 0 B2d F7w (cp 142 [1,0,0])
def B9a(C:cT)(Q:pT)(s0:St):A0l:=A0h 0 (kB 142 Q s0)
@[simp]theorem E50:(B9a C Q s0) (.exit 0) (ofL (B2d a b c d)) s=r0 Q s0 s:=by kernel_rfl
@[simp]theorem E0o:(B9a C Q s0) .ret (ofL (B2d a b c d)) s=r0 Q s0 s:=by kernel_rfl
@[simp]def E79(C:cT)(Q:pT)(a b c d:vT)(s0:St):Prop:=(fun s0=>evC P C h142 D4e 0 (B9a C Q s0) (ofL (B2d a c d b)) s0) s0
def D6y:=en4 142 E79
@[simp]def G60(C:cT)(Q:pT)(a:vT)(s0:St):Prop:=(bR 3 138 a fun b=>cf C 67 [b] fun c=>bV .shl 138 (.int .u64 1) c fun d=>r1 Q s0 d) s0
def F2c:=en1 143 G60
@[simp]def H0n(C:cT)(Q:pT)(a:vT)(s0:St):Prop:=(oN a fun b=>oL 220 b fun c=>oN a fun d=>oL 220 d fun e=>oV .shl 220 e (.int .u64 13) fun f=>oV .xor 220 c f fun g=>oN a fun h=>sw 220 h g (oN a fun i=>oL 220 i fun j=>oN a fun l=>oL 220 l fun m=>oV .shr 220 m (.int .u64 7) fun n=>oV .xor 220 j n fun o=>oN a fun p=>sw 220 p o (oN a fun q=>oL 220 q fun r=>oN a fun t=>oL 220 t fun u=>oV .shl 220 u (.int .u64 17) fun v=>oV .xor 220 r v fun w=>oN a fun x=>sw 220 x w (bN a fun y=>bL 220 y fun z=>r1 Q s0 z)))) s0
def F5q:=en1 144 H0n
@[simp]def G1v(C:cT)(Q:pT)(a b c:vT)(s0:St):Prop:=(bC .sub 3 b 1 fun d=>bA 3 b fun e=>cf C 146 [a,d,b,e,c] fun f=>r1 Q s0 f) s0
def F43:=en3 145 G1v
@[simp]def G2s(C:cT)(Q:pT)(a b c d e:vT)(s0:St):Prop:=(cf C 167 [a,b,c,e] fun f=>bE f 0 fun g=>bE f 1 fun h=>cf C 167 [a,h,d,e] fun i=>bE i 0 fun j=>bE i 1 fun _=>cf C 167 [a,g,j,e] fun l=>bE l 0 fun _=>bE l 1 fun m=>r1 Q s0 m) s0
def F2v:=en5 146 G2s
@[simp]def G87(C:cT)(Q:pT)(a:vT)(s0:St):Prop:=(bV .neq 43 a a fun b=>r1 Q s0 b) s0
def F03:=en1 147 G87
def D18:Code:=cp 148 [2,0]
def B3g:List Value:=a::b::c::d::un 4 (e::f::un 124 [])
@[simp]def A1y(C:cT)(K:kT)(I:V6)(a b c d e f:vT):oT:=cf C 176 [a,b,c,f] fun g=>bE g 0 fun h=>bE g 1 fun i=>bV .sub 3 h b fun j=>bV .sub 3 c h fun l=>bC .quo 3 e 8 fun m=>bV .lss 3 j l fun n=>cw n (bV .geq 3 j m fun o=>cf C 148 [a,b,h,d] fun _=>bA 3 h fun p=>I a p c d o i) (bV .geq 3 l m fun q=>bA 3 h fun r=>cf C 148 [a,r,c,d] fun _=>I a b h d q i)
@[simp]def A1t(C:cT)(K:kT)(I:V6)(a b c d e f g h:vT):oT:=oC .gtr 3 b 0 fun i=>gJt i a fun j=>gJt i b fun l=>gOt i (binV P .sub 3 l (.int .i64 1)) fun m=>gIt i 28 j m fun n=>gLt i 3 n fun o=>gJt i a fun p=>gJt i h fun q=>gIt i 28 p q fun r=>gLt i 3 r fun t=>wt i (fun k s=>A0u P C (fv 174) [o,t] k s) fun u=>gOt i (unV .not u) fun v=>oP i v fun w=>cw w (cf C 175 [a,b,c,h] fun x=>I a x c d e f) (A1y C K I a b c d g h)
@[simp]def A1v(C:cT)(K:kT)(I:V6)(a b c d e f g h i:vT):oT:=wJt e f fun j=>bP e j fun l=>wJt l i fun m=>wCt l .eql 183 m 1 fun n=>bP l n fun o=>cw o (cf C 173 [a,b,c] fun p=>cw p (K .ret (ofL (B3g a b c d e f))) (A1t C K I a b c d e f g h)) (A1t C K I a b c d e f g h)
@[simp]def A1u(C:cT)(K:kT)(I:V6)(a b c d e f g:vT):oT:=cf C 171 [a,b,c] fun h=>bE h 0 fun i=>bE h 1 fun j=>bC .eql 183 j 2 fun l=>cw l (cf C 172 [a,b,c] fun _=>bC .sub 3 c 1 fun m=>bV .sub 3 i b fun n=>bV .sub 3 m n fun o=>A1v C K I a b c d e f g o (.int .i64 1)) (A1v C K I a b c d e f g i j)
@[simp]def A15(C:cT)(K:kT)(I:V6)(a b c d e f g:vT):oT:=bM e fun h=>cw h (cf C 170 [a,b,c] fun _=>bC .sub 3 d 1 fun i=>A1u C K I a b c i e f g) (A1u C K I a b c d e f g)
@[simp]def A13(C:cT)(K:kT)(I:V6)(a b c d e f g:vT):oT:=bC .eql 3 d 0 fun h=>cw h (cf C 169 [a,b,c] fun _=>K .ret (ofL (B3g a b c d e f))) (A15 C K I a b c d e f g)
@[simp]def F0d(C:cT)(K:kT)(I:V6)(a b c d e f:vT):oT:=bV .sub 3 c b fun g=>bC .leq 3 g 12 fun h=>cw h (cf C 168 [a,b,c] fun _=>K .ret (ofL (B3g a b c d e f))) (A13 C K I a b c d e f g)
def C85:=lp6 h148 D18 0 B3g F0d (cp 148 [2,0,0])
def B3f(C:cT)(Q:pT)(s0:St):A0l:=A0h 0 (kB 148 Q s0)
@[simp]theorem D95:(B3f C Q s0) .ret (ofL (B3g a b c d e f)) s=r0 Q s0 s:=by kernel_rfl
@[simp]def H0e(C:cT)(Q:pT)(a b c d:vT)(s0:St):Prop:=(fun s0=>evC P C h148 D18 0 (B3f C Q s0) (ofL (B3g a b c d (.bool true) (.bool true))) s0) s0
def F1b:=en4 148 H0e
def A3i:Code:=cp 149 [1,1,0,0]
def A3a:Code:=cp 149 [1,1,1]
def A4j:Array Tmp:=#[7]
def A6k:List Value:=undef::undef::a::un 10 []
@[simp]def C4o(C:cT)(Q:pT)(b:Nat)(L:List vT)(a c:vT):oT:=bL 28 a fun d=>newW (bslN (A0e P 28) 1 #[(0,c)]) fun e=>apdW P (A0e P 28) 28 d e fun f=>sw 28 a f fun s=>s.heap b=some (.loop L A4j A3i A3a .busy none)∧Q (.bool true) (s.put b (.loop L A4j A3i A3a .ready none))
@[simp]def D0u(C:cT)(Q:pT)(b:Nat)(L:List vT)(a y0:vT):oT:=fun s=>s.heap b=some (.loop L A4j A3i A3a .ready none)∧C4o C Q b L a y0 (s.put b (.loop L A4j A3i A3a .busy none))
def B6p{a}:=rf1 h149 A3i A3a 0 13 A4j (A6k a) (fun C Q b y=>D0u C Q b (A6k a) a y) rfl
def D8h:A0l:=A0h 0 (kSeq (evC P C h149 (cp 149 [2]) 0 (kB 149 Q s0)) (kB 149 Q s0))
@[simp]theorem C23:(D8h C Q s0) .normal (ofL (A6k a)) s=(bL 28 a fun b=>r1 Q s0 b) s:=by kernel_rfl
@[simp]def G5h(C:cT)(Q:pT)(a b:vT)(s0:St):Prop:=(nB a fun c=>rfW P C 13 (A6k c) A4j A3i A3a (evC P C h149 A3i 0) (evC P C h149 A3a 0) (D8h C Q s0) b) s0
def F1n:=en2 149 G5h
def D4b:Code:=cp 150 [3,0,0]
def C08:List Value:=un 3 (a::b::c::un 40 [])
@[simp]def D74(C:cT)(K:kT)(I:V3)(a b c d:vT):oT:=bN b fun e=>bF 233 2 e fun f=>bL 231 f fun g=>bI 231 g d fun h=>bL 199 h fun i=>I a i c
@[simp]def F0q(C:cT)(K:kT)(I:V3)(a b c:vT):oT:=cf C 177 [b] fun d=>bM d fun e=>cw e (bL 204 a fun f=>cf C 151 [b,f] fun g=>bE g 0 fun h=>bE g 1 fun _=>bA 3 h fun i=>bN b fun j=>bF 233 2 j fun l=>bL 231 l fun m=>bH 231 m fun n=>bV .lss 3 i n fun o=>cw o (bN b fun p=>bF 233 2 p fun q=>bL 231 q fun r=>bA 3 h fun t=>bI 231 r t fun u=>bL 199 u fun v=>D74 C K I a b v h) (D74 C K I a b c h)) (K (.exit 0) (ofL (C08 a b c)))
def C89:=lp3 h150 D4b 0 C08 F0q (cp 150 [3,0,0,0])
def D66:A0l:=A0h 0 (kSeq (evC P C h150 (cp 150 [4]) 0 (kB 150 Q s0)) (kB 150 Q s0))
@[simp]theorem E8p:(D66 C Q s0) (.exit 0) (ofL (C08 a b c)) s=r2 Q s0 b c s:=by kernel_rfl
@[simp]def G6j(C:cT)(Q:pT)(a b:vT)(s0:St):Prop:=(nB b fun c=>cf C 153 [a] fun d=>bZ 199 d fun e=>cw e (r2 Q s0 (.pointer none) (.pointer none)) (evC P C h150 D4b 0 (D66 C Q s0) (ofL (C08 c d (.pointer none))))) s0
def F1y:=en2 150 G6j
def D6r:Code:=cp 151 [2,1,0,1,0]
def B19:List Value:=a::undef::undef::b::c::d::un 13 (e::f::g::un 33 [])
@[simp]def F2d(C:cT)(K:kT)(I:V7)(a b c d e f g:vT):oT:=bV .lss 3 g f fun h=>cw h (bI 230 e g fun i=>bL 204 i fun j=>nZ 204 fun l=>sw 204 l j (bL 204 l fun m=>bL 204 b fun n=>cf C 178 [m,n] fun o=>bC .geq 3 o 0 fun p=>cw p (bC .eql 3 o 0 fun q=>sw 3 c g (sw 4 d q (K .ret (ofL (B19 a b c d e f g))))) (bA 3 g fun r=>I a b c d e f r))) (K (.exit 0) (ofL (B19 a b c d e f g)))
def D0e:=lp7 h151 D6r 0 B19 F2d (cp 151 [2,1,0,1,0,0])
def D4m:A0l:=kSeq (evC P C h151 (cp 151 [3]) 0 (kB 151 Q s0)) (kB 151 Q s0)
def C38:A0l:=A0h 0 (kSeq (evC P C h151 (cR (cL (cR (cL (cp 151 [2]))))) 0 (D4m C Q s0)) (D4m C Q s0))
@[simp]theorem E7n:(C38 C Q s0) (.exit 0) (ofL (B19 a b c d e f g)) s=(bN a fun h=>bF 233 0 h fun i=>bL 230 i fun j=>bH 230 j fun l=>sw 3 c l (sw 4 d (.bool false) fun s=>kEnd Q s0 (retV (A03 (A04 (tAgg P 3) c s) (A03 (A04 (tAgg P 4) d s) (some [])))) s)) s:=by kernel_rfl
@[simp]theorem E0j:(C38 C Q s0) .ret (ofL (B19 a b c d e f g)) s=(fun s=>kEnd Q s0 (retV (A03 (A04 (tAgg P 3) c s) (A03 (A04 (tAgg P 4) d s) (some [])))) s) s:=by kernel_rfl
def A2p:Code:=cp 151 [3,1,0,0]
def A2o:Code:=cp 151 [3,1,1]
def A26:Array Tmp:=#[45, 46]
def A6l:List Value:=un 3 (a::b::c::un 49 [])
@[simp]def C3b(C:cT)(Q:pT)(b:Nat)(L:List vT)(a c d e f:vT):oT:=bL 204 f fun g=>bL 204 a fun h=>cf C 178 [g,h] fun i=>bC .leq 3 i 0 fun j=>cw j (bC .eql 3 i 0 fun m=>sw 3 c e (sw 4 d m fun s=>s.heap b=some (.loop L A26 A2p A2o .busy none)∧Q (.bool false) (s.put b (.loop L A26 A2p A2o .done (some .ret))))) (fun s=>s.heap b=some (.loop L A26 A2p A2o .busy none)∧Q (.bool true) (s.put b (.loop L A26 A2p A2o .ready none)))
@[simp]def C8h(C:cT)(Q:pT)(b:Nat)(L:List vT)(a c d y0 y1:vT):oT:=nZ 204 fun e=>sw 204 e y1 fun s=>s.heap b=some (.loop L A26 A2p A2o .ready none)∧C3b C Q b L a c d y0 e (s.put b (.loop L A26 A2p A2o .busy none))
def B6b{a c d}:=rf2 h151 A2p A2o 2 55 A26 (A6l a c d) (fun C Q b y0 y1=>C8h C Q b (A6l a c d) a c d y0 y1) rfl
def C3i:A0l:=A0h 2 (kSeq (evC P C h151 (cp 151 [4]) 0 (kB 151 Q s0)) (kB 151 Q s0))
@[simp]theorem C25:(C3i C Q s0) .normal (ofL (A6l a b c)) s=(sw 3 b (.int .i64 0) (sw 4 c (.bool false) fun s=>kEnd Q s0 (retV (A03 (A04 (tAgg P 3) b s) (A03 (A04 (tAgg P 4) c s) (some [])))) s)) s:=by kernel_rfl
@[simp]theorem D03:(C3i C Q s0) .ret (ofL (A6l a b c)) s=(fun s=>kEnd Q s0 (retV (A03 (A04 (tAgg P 3) b s) (A03 (A04 (tAgg P 4) c s) (some [])))) s) s:=by kernel_rfl
@[simp]def G85(C:cT)(Q:pT)(a b:vT)(s0:St):Prop:=(nB b fun c=>nZ 3 fun d=>nZ 4 fun e=>bZ 199 a fun f=>cw f (sw 3 d (.int .i64 0) (sw 4 e (.bool false) fun s=>kEnd Q s0 (retV (A03 (A04 (tAgg P 3) d s) (A03 (A04 (tAgg P 4) e s) (some [])))) s)) (cf C 177 [a] fun g=>cw g (bN a fun h=>bF 233 0 h fun i=>bL 230 i fun j=>bH 230 j fun l=>evC P C h151 D6r 0 (C38 C Q s0) (ofL (B19 a c d e j l (.int .i64 0)))) (bN a fun m=>bF 233 0 m fun n=>bL 230 n fun o=>cf C 179 [o] fun p=>rfW P C 55 (A6l c d e) A26 A2p A2o (evC P C h151 A2p 2) (evC P C h151 A2o 2) (C3i C Q s0) p))) s0
def D9o:=en2 151 G85
def D5x:Code:=cp 152 [3,0,0]
def B88:List Value:=un 6 (a::un 42 [])
@[simp]def E9l(C:cT)(K:kT)(I:V1)(a:vT):oT:=bN a fun b=>bF 233 2 b fun c=>bL 231 c fun d=>bH 231 d fun e=>bC .eql 3 e 1 fun f=>wJt f a fun g=>wOt f (nilV g) fun h=>wFt f 233 2 h fun i=>wLt f 231 i fun j=>wIt f 231 j (.int .i64 0) fun l=>wLt f 199 l fun m=>wVt f .neq 199 m (.pointer none) fun n=>bP f n fun o=>cw o (bN a fun p=>bF 233 2 p fun q=>bL 231 q fun r=>bI 231 r (.int .i64 0) fun t=>bL 199 t fun u=>I u) (K (.exit 0) (ofL (B88 a)))
def C8g:=lp1 h152 D5x 0 B88 E9l (cp 152 [3,0,0,0])
def D5v:A0l:=A0h 0 (kSeq (evC P C h152 (cp 152 [4]) 0 (kB 152 Q s0)) (kB 152 Q s0))
@[simp]theorem E7s:(D5v C Q s0) (.exit 0) (ofL (B88 a)) s=(cf C 177 [a] fun b=>wJt b a fun c=>wOt b (nilV c) fun d=>wFt b 233 0 d fun e=>wLt b 230 e fun f=>wHt b 230 f fun g=>wCt b .eql 3 g 0 fun h=>bP b h fun i=>cw i (r2 Q s0 (.pointer none) (.bool true)) (r2 Q s0 a (.bool true))) s:=by kernel_rfl
@[simp]def G6s(C:cT)(Q:pT)(a b:vT)(s0:St):Prop:=(nB b fun c=>bL 204 c fun d=>cf C 180 [a,d] fun e=>bE e 0 fun f=>bE e 1 fun g=>bM g fun h=>cw h (r2 Q s0 a (.bool false)) (evC P C h152 D5x 0 (D5v C Q s0) (ofL (B88 f)))) s0
def D8d:=en2 152 G6s
@[simp]def G42(C:cT)(Q:pT)(a:vT)(s0:St):Prop:=(bZ 140 a fun b=>cw b (r1 Q s0 (.pointer none)) (bN a fun c=>bF 201 0 c fun d=>bL 199 d fun e=>r1 Q s0 e)) s0
def D6w:=en1 153 G42
end
end Go.Zz
