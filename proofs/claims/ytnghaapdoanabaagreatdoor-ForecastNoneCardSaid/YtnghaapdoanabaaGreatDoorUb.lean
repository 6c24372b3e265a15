import Derived.Test.YtnghaapdoanabaaGreatDoorU0
set_option linter.all false
set_option maxRecDepth 20000
set_option linter.all false
namespace Go.Zz
open Go
noncomputable section
variable (C:cT)(K:kT)(Q:pT)(s0:St)(a b c d e f g h i j l m n o p q r t u v w x y z A B D E F G H J M N O R T U V W X Y Z a0 a1 a2 a3 a4 a5 a6 a7 a8 a9 b0 b1 b2 b3 b4 b5 b6 b7 b8 b9:vT)(s:St)
def E61:Code:=cp 26 [2,1,0]
def C6a:List Value:=undef::undef::a::un 4 (b::un 6 (c::d::e::un 17 []))
@[simp]def E86(C:cT)(K:kT)(I:V5)(a b c d e:vT):oT:=bA 3 e fun f=>I a b c d f
@[simp]def G2v(C:cT)(K:kT)(I:V5)(a b c d e:vT):oT:=bV .lss 3 e d fun f=>cw f (bI 34 c e fun g=>bL 43 g fun h=>A3y (tMap P 117) b h (.bool true) fun _=>cf C 57 [a,h] fun i=>bE i 0 fun j=>bE i 1 fun l=>cw l (A3y (tMap P 117) b j (.bool true) fun _=>E86 C K I a b c d e) (E86 C K I a b c d e)) (K (.exit 0) (ofL (C6a a b c d e)))
def D84:=lp5 h26 E61 0 C6a G2v (cp 26 [2,1,0,0])
def E8q:A0l:=A0h 0 (kSeq (evC P C h26 (cp 26 [3]) 0 (kB 26 Q s0)) (kB 26 Q s0))
@[simp]theorem F0l:(E8q C Q s0) (.exit 0) (ofL (C6a a b c d e)) s=(cf C 58 [b] fun f=>r1 Q s0 f) s:=by kernel_rfl
@[simp]def f26xS(C:cT)(Q:pT)(a b c:vT)(s0:St):Prop:=(cf C 56 [a] fun d=>bH 34 b fun e=>evC P C h26 E61 0 (E8q C Q s0) (ofL (C6a c d b e (.int .i64 0)))) s0
def G8u:=en3 26 f26xS
@[simp]def f27xS(C:cT)(Q:pT)(a b:vT)(s0:St):Prop:=(bZ 25 a fun c=>cw c (r1 Q s0 (.slice none 0 0)) (oN a fun d=>oF 83 4 d fun e=>oL 78 e fun f=>oN a fun g=>oF 83 6 g fun h=>oL 80 h fun i=>oO (mkFn 52 #[a] #[]) fun j=>cf C 28 [a,b] fun l=>kL 78 e f (kL 80 h i (cf C 59 [f,i,l,j] fun m=>r1 Q s0 m)))) s0
def G6e:=en2 27 f27xS
@[simp]def f28xS(C:cT)(Q:pT)(a b:vT)(s0:St):Prop:=(bZ 25 a fun c=>cw c (r1 Q s0 (.slice none 0 0)) (cf C 60 [a] fun d=>cf C 61 [d,b] fun e=>r1 Q s0 e)) s0
def G8w:=en2 28 f28xS
@[simp]def f29xS(C:cT)(Q:pT)(a:vT)(s0:St):Prop:=(nB a fun b=>bO (mkFn 62 #[] #[b]) fun c=>r1 Q s0 c) s0
def G5c:=en1 29 f29xS
@[simp]def f30xS(C:cT)(Q:pT)(a b:vT)(s0:St):Prop:=(cf C 63 [a,b] fun c=>bM c fun d=>cw d (r2 Q s0 (.int .u64 0) (.bool false)) (bN a fun e=>bF 130 0 e fun f=>bI 128 f b fun g=>bF 127 3 g fun h=>bL 43 h fun i=>r2 Q s0 i (.bool true))) s0
def G3q:=en2 30 f30xS
@[simp]def f31xS(C:cT)(Q:pT)(a:vT)(s0:St):Prop:=(nB a fun b=>bO (mkFn 64 #[] #[b]) fun c=>r1 Q s0 c) s0
def G5k:=en1 31 f31xS
def E5g:Code:=cp 32 [3,1,0]
def C6d:List Value:=a::b::un 3 (c::d::un 35 [])
@[simp]def E7c(C:cT)(K:kT)(I:V4)(a b c d:vT):oT:=bA 3 d fun e=>I a b c e
@[simp]def G63(C:cT)(K:kT)(I:V4)(a b c d:vT):oT:=bH 34 a fun e=>bV .lss 3 d e fun f=>cw f (bI 34 a d fun g=>bL 43 g fun h=>A0u P C b [h] fun i=>bM i fun j=>cw j (bI 34 a c fun l=>sw 43 l h (bA 3 c fun m=>E7c C K I a b m d)) (E7c C K I a b c d)) (K (.exit 0) (ofL (C6d a b c d)))
def D6b:=lp4 h32 E5g 0 C6d G63 (cp 32 [3,1,0,0])
def E89:A0l:=A0h 0 (kSeq (evC P C h32 (cp 32 [4]) 0 (kB 32 Q s0)) (kB 32 Q s0))
@[simp]theorem F75:(E89 C Q s0) (.exit 0) (ofL (C6d a b c d)) s=(bS (fun s=>slcV P 34 a (some c) none none s) fun e=>A6d P 34 e fun _=>bS (fun s=>slcV P 34 a none (some c) none s) fun f=>r1 Q s0 f) s:=by kernel_rfl
@[simp]def f32xS(C:cT)(Q:pT)(a b:vT)(s0:St):Prop:=(cf C 65 [a,b] fun c=>bV .eql 3 c (.int .i64 (-1)) fun d=>cw d (r1 Q s0 a) (bA 3 c fun e=>evC P C h32 E5g 0 (E89 C Q s0) (ofL (C6d a b c e)))) s0
def G1u:=en2 32 f32xS
@[simp]def f33xS(C:cT)(Q:pT)(a b:vT)(s0:St):Prop:=(bL 25 b fun c=>bN c fun d=>bF 83 3 d fun e=>bL 77 e fun f=>bS (fun s=>B0y (tMap P 77) f a true s) fun g=>bE g 0 fun h=>bE g 1 fun i=>nZ 49 fun j=>sw 49 j h (bM i fun l=>r1 Q s0 l)) s0
def G49:=en2 33 f33xS
@[simp]def f34xS(C:cT)(Q:pT)(a:vT)(s0:St):Prop:=(bH 34 a fun b=>bR 3 138 b fun c=>cf C 67 [c] fun d=>cf C 66 [a,(.int .i64 0),b,d] fun _=>r0 Q s0) s0
def G2d:=en1 34 f34xS
def E8r:Code:=cp 35 [2,1,0]
def B8b:List Value:=a::undef::b::c::un 57 []
def E6w:Code:=cp 35 [2,1,0,1,0,1,1,1,0]
def C6z:List Value:=a::undef::undef::b::c::d::un 55 []
@[simp]def E6f(C:cT)(K:kT)(I:V4)(a b c d:vT):oT:=bA 3 d fun e=>I a b c e
@[simp]def G92(C:cT)(K:kT)(I:V4)(a b c d:vT):oT:=bH 34 c fun e=>bV .lss 3 d e fun f=>cw f (oI 34 c d fun g=>oL 43 g fun h=>oC .sub 3 d 1 fun i=>oI 34 c i fun j=>oL 43 j fun l=>oV .neq 43 h l fun m=>cw m (bI 34 c d fun n=>bL 43 n fun o=>bI 34 a b fun p=>sw 43 p o (bA 3 b fun q=>E6f C K I a q c d)) (E6f C K I a b c d)) (K (.exit 2) (ofL (C6z a b c d)))
def D2s:=lp4 h35 E6w 2 C6z G92 (cp 35 [2,1,0,1,0,1,1,1,0,0])
def E7r(C:cT)(K:kT)(I:V3):A0l:=A0h 1 (kSeq (evC P C h35 (cR (cR (cL (cL (cR (cL (cp 35 [2]))))))) 0 (A5n h35 0 (fun l s=>I (l.getD 0 undef) (l.getD 2 undef) (l.getD 3 undef) s) K)) (A5n h35 0 (fun l s=>I (l.getD 0 undef) (l.getD 2 undef) (l.getD 3 undef) s) K))
def E5l(C:cT)(K:kT)(I:V3):A0l:=A0h 2 (kSeq (evC P C h35 (cR (cR (cL (cR (cL (cL (cR (cL (cL (cR (cL (cp 35 [2])))))))))))) 1 (E7r C K I)) (E7r C K I))
@[simp]theorem F1x(I:V3):(E5l C K I) (.exit 2) (ofL (C6z a c d e)) s=(bS (fun s=>slcV P 34 a (some c) none none s) fun f=>A6d P 34 f fun _=>bS (fun s=>slcV P 34 a none (some c) none s) fun g=>K .ret (ofL (B8b a g c))) s:=by kernel_rfl
@[simp]def G78(C:cT)(K:kT)(I:V3)(a b c:vT):oT:=bH 34 a fun d=>bV .lss 3 c d fun e=>cw e (oI 34 a c fun f=>oL 43 f fun g=>oC .sub 3 c 1 fun h=>oI 34 a h fun i=>oL 43 i fun j=>oV .eql 43 g j fun l=>cw l (bS (fun s=>slcV P 34 a (some c) none none s) fun m=>evC P C h35 E6w 2 (E5l C K I) (ofL (C6z a c m (.int .i64 1)))) (bA 3 c fun n=>I a b n)) (K (.exit 0) (ofL (B8b a b c)))
def D9h:=lp3 h35 E8r 0 B8b G78 (cp 35 [2,1,0,0])
def C4e:A0l:=A0h 0 (kSeq (evC P C h35 (cp 35 [3]) 0 (kB 35 Q s0)) (kB 35 Q s0))
@[simp]theorem F7q:(C4e C Q s0) (.exit 0) (ofL (B8b a b c)) s=r1 Q s0 a s:=by kernel_rfl
@[simp]theorem E2o:(C4e C Q s0) .ret (ofL (B8b a b c)) s=r1 Q s0 b s:=by kernel_rfl
@[simp]def f35xS(C:cT)(Q:pT)(a:vT)(s0:St):Prop:=(bH 34 a fun b=>bC .lss 3 b 2 fun c=>cw c (r1 Q s0 a) (evC P C h35 E8r 0 (C4e C Q s0) (ofL (B8b a (.slice none 0 0) (.int .i64 1))))) s0
def G2p:=en1 35 f35xS
@[simp]def f36xS(C:cT)(Q:pT)(a:vT)(s0:St):Prop:=(nB a fun b=>nZ 49 fun c=>bF 49 8 b fun d=>bL 47 d fun e=>cf C 68 [e] fun f=>bF 49 8 b fun g=>sw 47 g f (bL 49 b fun h=>sw 49 c h fun s=>kEnd Q s0 (retV (A03 (A04 (tAgg P 49) c s) (some []))) s)) s0
def G1x:=en1 36 f36xS
@[simp]def f37xS(C:cT)(Q:pT)(a:vT)(s0:St):Prop:=(cf C 69 [a] fun b=>bO (A0r P 143 #[(0,b)]) fun c=>nB c fun d=>r1 Q s0 d) s0
def H0g:=en1 37 f37xS
@[simp]def f38xS(C:cT)(Q:pT)(a:vT)(s0:St):Prop:=(bZ 79 a fun b=>cw b (cf C 49 [] fun c=>r1 Q s0 c) (bN a fun d=>bF 149 0 d fun e=>bL 144 e fun f=>cf C 70 [f] fun g=>bO (A0r P 149 #[(0,g)]) fun h=>nB h fun i=>r1 Q s0 i)) s0
def G6h:=en1 38 f38xS
@[simp]def f39xS(C:cT)(Q:pT)(a:vT)(s0:St):Prop:=(bZ 80 a fun b=>cw b (r1 Q s0 (.pointer none)) (bN a fun c=>bL 130 c fun d=>nZ 130 fun e=>sw 130 e d (r1 Q s0 e))) s0
def G8z:=en1 39 f39xS
@[simp]def f40xS(C:cT)(Q:pT)(a:vT)(s0:St):Prop:=(bZ 81 a fun b=>cw b (r1 Q s0 (.pointer none)) (bN a fun c=>bF 134 0 c fun d=>bL 132 d fun e=>cf C 71 [e] fun f=>bO (A0r P 134 #[(0,f)]) fun g=>nB g fun h=>r1 Q s0 h)) s0
def H0r:=en1 40 f40xS
@[simp]def A5e:oT:=wLt b 49 a fun d=>wLt b 49 c fun e=>wt b (fun k s=>A0u P C (fv 73) [d,e] k s) fun f=>bP b f fun g=>wFt g 49 1 a fun h=>wLt g 43 h fun i=>wVt g .geq 43 i (.int .u64 1) fun j=>bP g j fun l=>wFt l 49 1 a fun m=>wLt l 43 m fun n=>wVt l .leq 43 n (.int .u64 65535) fun o=>bP l o fun p=>wFt p 49 2 a fun q=>wLt p 3 q fun r=>wt p (fun k s=>A0u P C (fv 74) [r,(.int .i64 1073741824)] k s) fun t=>bP p t fun u=>wLt u 49 a fun v=>wt u (fun k s=>A0u P C (fv 75) [v] k s) fun w=>bP u w fun x=>r1 Q s0 x
@[simp]def D7r:oT:=bF 152 3 b fun e=>bL 4 e fun f=>cw f (bF 49 8 a fun g=>bL 47 g fun h=>bF 49 8 d fun i=>sw 47 i h (A5e C Q s0 a c d)) (A5e C Q s0 a c d)
@[simp]def D67:oT:=bF 152 2 b fun e=>bL 4 e fun f=>cw f (oF 49 5 a fun g=>oL 3 g fun h=>oF 49 6 a fun i=>oL 3 i fun j=>oF 49 7 a fun l=>oL 3 l fun m=>oF 49 5 d fun n=>sw 3 n h (kL 3 i j (kL 3 l m (oF 49 6 d fun o=>sw 3 o j (kL 3 l m (oF 49 7 d fun p=>sw 3 p m (D7r C Q s0 a b c d))))))) (D7r C Q s0 a b c d)
@[simp]def D8t:oT:=bF 152 1 b fun e=>bL 4 e fun f=>cw f (bF 49 4 a fun g=>bL 43 g fun h=>bF 49 4 d fun i=>sw 43 i h (D67 C Q s0 a b c d)) (D67 C Q s0 a b c d)
@[simp]def f41xS(C:cT)(Q:pT)(a:vT)(s0:St):Prop:=(nB a fun b=>bF 49 0 b fun c=>bL 3 c fun d=>cf C 72 [d] fun e=>bE e 0 fun f=>bE e 1 fun g=>nZ 152 fun h=>sw 152 h f (bF 49 0 b fun i=>bL 3 i fun j=>bF 49 1 b fun l=>bL 43 l fun m=>bF 49 2 b fun n=>bL 3 n fun o=>bO (A0r P 49 #[(0,j),(1,m),(2,o)]) fun p=>nZ 49 fun q=>sw 49 q p (bF 152 0 h fun r=>bL 4 r fun t=>cw t (bF 49 3 b fun u=>bL 46 u fun v=>bF 49 3 q fun w=>sw 46 w v (D8t C Q s0 b h g q)) (D8t C Q s0 b h g q)))) s0
def G5l:=en1 41 f41xS
@[simp]def f42xS(C:cT)(Q:pT)(a:vT)(s0:St):Prop:=(nB a fun b=>bF 49 0 b fun c=>bL 3 c fun d=>bC .eql 3 d 1 fun e=>wFf e 49 0 b fun f=>wLf e 3 f fun g=>wCf e .eql 3 g 2 fun h=>bQ e h fun i=>wFf i 49 0 b fun j=>wLf i 3 j fun l=>wCf i .eql 3 l 3 fun m=>bQ i m fun n=>r1 Q s0 n) s0
def G6k:=en1 42 f42xS
def E6r:Code:=cp 43 [1,1,0]
def B7p:List Value:=a::b::un 4 (c::un 13 (d::e::f::un 15 []))
@[simp]def G7s(C:cT)(K:kT)(I:V6)(a b c d e f:vT):oT:=bV .lss 3 f e fun g=>cw g (bI 157 d f fun h=>bL 46 h fun i=>nZ 46 fun j=>sw 46 j i (oL 46 j fun l=>cf C 14 [a] fun m=>kL 46 j l (cf C 44 [a,b,l] fun n=>cf C 16 [m,n] fun o=>bC .eql 41 o 0 fun p=>cw p (bL 46 j fun q=>sw 46 c q (K .ret (ofL (B7p a b c d e f)))) (bA 3 f fun r=>I a b c d e r)))) (K (.exit 0) (ofL (B7p a b c d e f)))
def D47:=lp6 h43 E6r 0 B7p G7s (cp 43 [1,1,0,0])
def D4l:A0l:=A0h 0 (kSeq (evC P C h43 (cp 43 [2]) 0 (kB 43 Q s0)) (kB 43 Q s0))
@[simp]theorem F3o:(D4l C Q s0) (.exit 0) (ofL (B7p a b c d e f)) s=(bO (A0r P 46 #[]) fun g=>sw 46 c g fun s=>kEnd Q s0 (retV (A03 (A04 (tAgg P 46) c s) (some []))) s) s:=by kernel_rfl
@[simp]theorem E2i:(D4l C Q s0) .ret (ofL (B7p a b c d e f)) s=(fun s=>kEnd Q s0 (retV (A03 (A04 (tAgg P 46) c s) (some []))) s) s:=by kernel_rfl
@[simp]def f43xS(C:cT)(Q:pT)(a b c:vT)(s0:St):Prop:=(nB c fun d=>nZ 46 fun e=>bF 46 1 d fun f=>bL 3 f fun g=>bF 46 2 d fun h=>bL 3 h fun i=>bA 3 i fun j=>bO (A0r P 46 #[(1,g),(2,j)]) fun l=>bF 46 1 d fun m=>bL 3 m fun n=>bA 3 n fun o=>bO (A0r P 46 #[(1,o)]) fun p=>newW (bslN (A0e P 157) 2 #[(0,l),(1,p)]) fun q=>bH 157 q fun r=>evC P C h43 E6r 0 (D4l C Q s0) (ofL (B7p a b e q r (.int .i64 0)))) s0
def G9n:=en3 43 f43xS
@[simp]def f44xS(C:cT)(Q:pT)(a b c:vT)(s0:St):Prop:=(nB c fun d=>nZ 49 fun e=>oL 46 d fun f=>mw (mslN (A0e P 47) (.int .i64 32) (.int .i64 32)) (cf C 17 [a] fun g=>kL 46 d f (oV .add 43 g (.int .u64 1) fun h=>newW (mslN (A0e P 47) (.int .i64 32) (.int .i64 32)) fun i=>bO (A0r P 49 #[(0,(.int .i64 1)),(1,h),(2,b),(3,f),(8,i)]) fun j=>sw 49 e j fun s=>kEnd Q s0 (retV (A03 (A04 (tAgg P 49) e s) (some []))) s))) s0
def G5r:=en3 44 f44xS
@[simp]def f45xS(C:cT)(Q:pT)(a:vT)(s0:St):Prop:=(nZ 112 fun b=>bZ 25 a fun c=>cw c (bO (A0r P 112 #[]) fun d=>sw 112 b d fun s=>kEnd Q s0 (retV (A03 (A04 (tAgg P 112) b s) (some []))) s) (oN a fun e=>oF 83 5 e fun f=>oL 79 f fun g=>oN a fun h=>oF 83 2 h fun i=>oL 76 i fun j=>oN a fun l=>oF 83 7 l fun m=>oL 81 m fun n=>oN a fun o=>oF 83 6 o fun p=>oL 80 p fun q=>cf C 38 [g] fun r=>kL 76 i j (kL 81 m n (kL 80 p q (cf C 40 [n] fun t=>kL 76 i j (kL 80 p q (cf C 39 [q] fun u=>kL 76 i j (oO (A0r P 112 #[(0,r),(1,j),(2,t),(3,u)]) fun v=>sw 112 b v fun s=>kEnd Q s0 (retV (A03 (A04 (tAgg P 112) b s) (some []))) s)))))))) s0
def G4h:=en1 45 f45xS
def A3q:Code:=cp 46 [2,1,0,0]
def A3r:Code:=cp 46 [2,1,1]
def A4q:Array Tmp:=#[14, 15]
def B1p:List Value:=undef::undef::a::b::undef::c::un 42 []
def E63:Code:=cp 46 [2,1,1,2,0]
def C6m:List Value:=un 5 (a::un 19 (b::c::d::un 20 []))
@[simp]def G6u(C:cT)(K:kT)(I:V4)(a b c d:vT):oT:=bV .lss 3 d c fun e=>cw e (bI 28 b d fun f=>bL 3 f fun g=>bL 158 a fun h=>A3y (tMap P 158) h g (.bool true) fun _=>bA 3 d fun i=>I a b c i) (K (.exit 2) (ofL (C6m a b c d)))
def D3e:=lp4 h46 E63 2 C6m G6u (cp 46 [2,1,1,2,0,0])
def E8l(C:cT)(Q:pT)(b:Nat)(L:List vT):A0l:=A0h 2 (A0h 1 (rfB b L A4q A3q A3r Q))
@[simp]theorem F3c(b:Nat)(L:List vT):(E8l C Q b L) (.exit 2) (ofL (C6m a c d e)) s=(fun s=>s.heap b=some (.loop L A4q A3q A3r .busy none)∧Q (.bool true) (s.put b (.loop L A4q A3q A3r .ready none))) s:=by kernel_rfl
@[simp]def C8l(C:cT)(Q:pT)(b:Nat)(L:List vT)(a c d:vT):oT:=bF 112 0 a fun e=>bL 79 e fun f=>cf C 77 [f,d] fun g=>cw g (fun s=>s.heap b=some (.loop L A4q A3q A3r .busy none)∧Q (.bool true) (s.put b (.loop L A4q A3q A3r .ready none))) (bF 112 1 a fun h=>bL 76 h fun i=>bF 112 0 a fun j=>bL 79 j fun m=>cf C 78 [i,m,d] fun n=>bH 28 n fun o=>evC P C h46 E63 2 (E8l C Q b L) (ofL (C6m c n o (.int .i64 0))))
@[simp]def D2i(C:cT)(Q:pT)(b:Nat)(L:List vT)(a c y0 y1:vT):oT:=fun s=>s.heap b=some (.loop L A4q A3q A3r .ready none)∧C8l C Q b L a c y0 (s.put b (.loop L A4q A3q A3r .busy none))
def C0m{a c d}:=rf2 h46 A3q A3r 0 48 A4q (B1p a c d) (fun C Q b y0 y1=>D2i C Q b (B1p a c d) a d y0 y1) rfl
def A5z:Code:=cp 46 [3,1,0,0]
def A5u:Code:=cp 46 [3,1,1]
def A6q:Array Tmp:=#[37]
def A9g:List Value:=un 3 (a::undef::b::un 42 [])
@[simp]def B2s(C:cT)(Q:pT)(b:Nat)(L:List vT)(a c:vT):oT:=bL 158 a fun d=>bF 95 0 c fun e=>bF 93 3 e fun f=>bL 3 f fun g=>A3y (tMap P 158) d g (.bool true) fun _=>fun s=>s.heap b=some (.loop L A6q A5z A5u .busy none)∧Q (.bool true) (s.put b (.loop L A6q A5z A5u .ready none))
@[simp]def D6m(C:cT)(Q:pT)(b:Nat)(L:List vT)(a y0:vT):oT:=nZ 95 fun c=>sw 95 c y0 fun s=>s.heap b=some (.loop L A6q A5z A5u .ready none)∧B2s C Q b L a c (s.put b (.loop L A6q A5z A5u .busy none))
def B8o{a c}:=rf1 h46 A5z A5u 4 48 A6q (A9g a c) (fun C Q b y=>D6m C Q b (A9g a c) c y) rfl
def E7h:A0l:=A0h 4 (kSeq (evC P C h46 (cp 46 [4]) 0 (kB 46 Q s0)) (kB 46 Q s0))
@[simp]theorem C26:(E7h C Q s0) .normal (ofL (A9g a b)) s=(bL 158 b fun c=>bO (mkFn 80 #[] #[a]) fun d=>cf C 79 [c,d] fun _=>bL 158 b fun e=>cf C 82 [e] fun f=>cf C 81 [f] fun g=>r1 Q s0 g) s:=by kernel_rfl
def D3d:A0l:=A0h 0 (kSeq (evC P C h46 (cp 46 [3]) 0 (kB 46 Q s0)) (kB 46 Q s0))
@[simp]theorem C3a:(D3d C Q s0) .normal (ofL (B1p a b c)) s=(bF 112 2 a fun d=>bL 81 d fun e=>cf C 31 [e] fun f=>rfW P C 48 (A9g b c) A6q A5z A5u (evC P C h46 A5z 4) (evC P C h46 A5u 4) (E7h C Q s0) f) s:=by kernel_rfl
@[simp]def f46xS(C:cT)(Q:pT)(a b:vT)(s0:St):Prop:=(nB a fun c=>nB b fun d=>newW (mapN (A22 P 158) none) fun e=>nZ 158 fun f=>sw 158 f e (bF 112 0 c fun g=>bL 79 g fun h=>cf C 76 [h] fun i=>rfW P C 48 (B1p c d f) A4q A3q A3r (evC P C h46 A3q 0) (evC P C h46 A3r 0) (D3d C Q s0) i)) s0
def G77:=en2 46 f46xS
def E6h:Code:=cp 47 [3,1,0]
def B7g:List Value:=undef::undef::a::b::c::un 7 (d::e::f::un 45 [])
@[simp]def D6j(C:cT)(K:kT)(I:V6)(a b c d e f:vT):oT:=bA 3 f fun g=>I a b c d e g
@[simp]def D6a(C:cT)(K:kT)(I:V6)(a b c d e f g:vT):oT:=bF 76 0 c fun h=>bL 74 h fun i=>bL 170 d fun j=>newW (bslN (A0e P 74) 1 #[(0,j)]) fun l=>apdW P (A0e P 74) 74 i l fun m=>bF 76 0 c fun n=>sw 74 n m (D6j C K I a b c e f g)
@[simp]def G32(C:cT)(K:kT)(I:V6)(a b c d e f:vT):oT:=bV .lss 3 f e fun g=>cw g (bI 22 d f fun h=>bL 72 h fun i=>nZ 72 fun j=>sw 72 j i (bL 72 j fun l=>cf C 83 [l] fun m=>bM m fun n=>cw n (bO (A0r P 76 #[]) fun o=>sw 76 a o (K .ret (ofL (B7g a (.int .i64 3) c d e f)))) (bF 72 2 j fun p=>bL 3 p fun q=>bO (A0r P 170 #[(1,q)]) fun r=>nZ 170 fun t=>sw 170 t r (bF 72 0 j fun u=>bL 3 u fun v=>bC .eql 3 v 1 fun w=>cw w (bF 170 0 t fun x=>sw 168 x (fv 84) (D6a C K I a b c t d e f)) (bC .eql 3 v 2 fun y=>cw y (bO (mkFn 85 #[] #[j]) fun z=>bF 170 0 t fun A=>sw 168 A z (D6a C K I a b c t d e f)) (bC .eql 3 v 3 fun B=>cw B (bO (mkFn 87 #[] #[j]) fun D=>bF 170 0 t fun E=>sw 168 E D (D6a C K I a b c t d e f)) (bF 76 2 c fun F=>bL 4 F fun G=>bM G fun H=>wFf H 72 2 j fun J=>wLf H 3 J fun M=>wFf H 76 1 c fun N=>wLf H 3 N fun O=>wVf H .lss 3 M O fun R=>bQ H R fun T=>cw T (bF 72 2 j fun U=>bL 3 U fun V=>bF 76 1 c fun W=>sw 3 W V (bF 76 2 c fun X=>sw 4 X (.bool true) (D6j C K I a b c d e f))) (D6j C K I a b c d e f)))))))) (K (.exit 0) (ofL (B7g a b c d e f)))
def D75:=lp6 h47 E6h 0 B7g G32 (cp 47 [3,1,0,0])
def D9d:A0l:=A0h 0 (kSeq (evC P C h47 (cp 47 [4]) 0 (kB 47 Q s0)) (kB 47 Q s0))
@[simp]theorem F6j:(D9d C Q s0) (.exit 0) (ofL (B7g a b c d e f)) s=(bL 76 c fun g=>sw 76 a g fun s=>kEnd Q s0 (retV (A03 (A04 (tAgg P 76) a s) (A03 (some (.int .i64 0)) (some [])))) s) s:=by kernel_rfl
@[simp]theorem E4t:(D9d C Q s0) .ret (ofL (B7g a b c d e f)) s=(fun s=>kEnd Q s0 (retV (A03 (A04 (tAgg P 76) a s) (A03 (some b) (some [])))) s) s:=by kernel_rfl
@[simp]def f47xS(C:cT)(Q:pT)(a:vT)(s0:St):Prop:=(nZ 76 fun b=>bH 22 a fun c=>bC .gtr 3 c 16 fun d=>cw d (bO (A0r P 76 #[]) fun e=>sw 76 b e fun s=>kEnd Q s0 (retV (A03 (A04 (tAgg P 76) b s) (A03 (some (.int .i64 6)) (some [])))) s) (nZ 76 fun f=>bH 22 a fun g=>evC P C h47 E6h 0 (D9d C Q s0) (ofL (B7g b (.int .i64 0) f a g (.int .i64 0))))) s0
def G9r:=en1 47 f47xS
@[simp]def f48xS(C:cT)(Q:pT)(s0:St):Prop:=(cf C 89 [] fun a=>bO (A0r P 143 #[(0,a)]) fun b=>nB b fun c=>r1 Q s0 c) s0
def G89:=en0 48 f48xS
@[simp]def f49xS(C:cT)(Q:pT)(s0:St):Prop:=(bO (A0r P 149 #[]) fun a=>nB a fun b=>r1 Q s0 b) s0
def G45:=en0 49 f49xS
@[simp]def f50xS(C:cT)(Q:pT)(s0:St):Prop:=(bO (A0r P 130 #[]) fun a=>nB a fun b=>r1 Q s0 b) s0
def G9a:=en0 50 f50xS
@[simp]def f51xS(C:cT)(Q:pT)(s0:St):Prop:=(bO (A0r P 134 #[]) fun a=>nB a fun b=>r1 Q s0 b) s0
def G5d:=en0 51 f51xS
@[simp]def G62(C:cT)(Q:pT)(a b:vT)(s0:St):Prop:=(nZ 49 fun c=>bZ 25 a fun d=>cw d (bO (A0r P 49 #[]) fun e=>sw 49 c e fun s=>kEnd Q s0 (retV (A03 (A04 (tAgg P 49) c s) (A03 (some (.bool false)) (some [])))) s) (bN a fun f=>bF 83 3 f fun g=>bL 77 g fun h=>bS (fun s=>B0y (tMap P 77) h b true s) fun i=>bE i 0 fun j=>bE i 1 fun l=>nZ 49 fun m=>sw 49 m j (bL 49 m fun n=>cf C 36 [n] fun o=>sw 49 c o fun s=>kEnd Q s0 (retV (A03 (A04 (tAgg P 49) c s) (A03 (some l) (some [])))) s))) s0
def G7a:=en2 52 G62
@[simp]def f53xS(C:cT)(Q:pT)(a b:vT)(s0:St):Prop:=(bZ 25 a fun c=>cw c (r1 Q s0 (.int .i64 1)) (bN a fun d=>bF 83 5 d fun e=>bL 79 e fun f=>cf C 90 [f,b] fun g=>r1 Q s0 g)) s0
def G8h:=en2 53 f53xS
def A4s:Code:=cp 54 [5,1,1,0,0]
def A4p:Code:=cp 54 [5,1,1,1]
def A5l:Array Tmp:=#[62]
def A8u:List Value:=undef::undef::a::b::un 76 []
@[simp]def B2n(C:cT)(Q:pT)(b:Nat)(L:List vT)(a c d:vT):oT:=bF 95 1 d fun e=>bL 43 e fun f=>bL 43 c fun g=>bV .eql 43 f g fun h=>cw h (oL 25 a fun i=>oN i fun j=>oF 83 7 j fun m=>oL 81 m fun n=>oF 95 0 d fun o=>oF 93 0 o fun p=>oL 43 p fun q=>cf C 94 [n,q] fun _=>fun s=>s.heap b=some (.loop L A5l A4s A4p .busy none)∧Q (.bool true) (s.put b (.loop L A5l A4s A4p .ready none))) (fun s=>s.heap b=some (.loop L A5l A4s A4p .busy none)∧Q (.bool true) (s.put b (.loop L A5l A4s A4p .ready none)))
@[simp]def D7g(C:cT)(Q:pT)(b:Nat)(L:List vT)(a c y0:vT):oT:=nZ 95 fun d=>sw 95 d y0 fun s=>s.heap b=some (.loop L A5l A4s A4p .ready none)∧B2n C Q b L a c d (s.put b (.loop L A5l A4s A4p .busy none))
def C1g{a c}:=rf1 h54 A4s A4p 1 80 A5l (A8u a c) (fun C Q b y=>D7g C Q b (A8u a c) a c y) rfl
@[simp]def B1m(C:cT)(Q:pT)(s0:St)(a b:vT):oT:=oL 25 a fun c=>oN c fun d=>oF 83 3 d fun e=>oL 77 e fun f=>oL 43 b fun g=>delW (tMap P 77) f g fun _=>r1 Q s0 (.int .i64 0)
def E6b:A0l:=A0h 1 (kSeq (evC P C h54 (cp 54 [6]) 0 (kB 54 Q s0)) (kB 54 Q s0))
@[simp]theorem C3s:(E6b C Q s0) .normal (ofL (A8u a b)) s=B1m C Q s0 a b s:=by kernel_rfl
@[simp]def A99:oT:=bF 49 0 c fun d=>bL 3 d fun e=>bC .eql 3 e 6 fun f=>cw f (bL 25 a fun g=>bN g fun h=>bF 83 7 h fun i=>bL 81 i fun j=>cf C 40 [j] fun l=>cf C 31 [l] fun m=>rfW P C 80 (A8u a b) A5l A4s A4p (evC P C h54 A4s 1) (evC P C h54 A4p 1) (E6b C Q s0) m) (B1m C Q s0 a b)
@[simp]def B5m:oT:=bL 49 c fun d=>cf C 42 [d] fun e=>cw e (oL 25 a fun f=>oN f fun g=>oF 83 4 g fun h=>oL 78 h fun i=>oF 49 3 c fun j=>oL 46 j fun l=>oL 43 b fun m=>cf C 92 [i,l,m] fun _=>oL 25 a fun n=>oN n fun o=>oF 83 5 o fun p=>oL 79 p fun q=>oL 43 b fun r=>cf C 90 [q,r] fun _=>oL 25 a fun t=>oN t fun u=>oF 83 5 u fun v=>oL 79 v fun w=>oL 43 b fun x=>cf C 93 [w,x] fun _=>A99 C Q s0 a b c) (A99 C Q s0 a b c)
@[simp]def E8v:oT:=oL 25 a fun c=>oN c fun d=>oF 83 3 d fun e=>oL 77 e fun f=>oL 43 b fun g=>oS (fun s=>B0y (tMap P 77) f g true s) fun h=>oE h 0 fun i=>oE h 1 fun j=>mw (B40 (A2r P 49)) (nZ 49 fun l=>sw 49 l i (bM j fun m=>cw m (r1 Q s0 (.int .i64 4)) (oL 25 a fun n=>oL 25 a fun o=>oN o fun p=>oF 83 8 p fun q=>oL 3 q fun r=>oL 43 b fun t=>cf C 12 [n,r] fun u=>kL 43 b t (cf C 91 [u,t] fun v=>cw v (r1 Q s0 (.int .i64 12)) (B5m C Q s0 a b l)))))
@[simp]def f54xS(C:cT)(Q:pT)(a b:vT)(s0:St):Prop:=(nB a fun c=>nB b fun d=>bL 25 c fun e=>bZ 25 e fun f=>cw f (r1 Q s0 (.int .i64 1)) (E8v C Q s0 c d)) s0
def G7o:=en2 54 f54xS
@[simp]def f55xS(C:cT)(Q:pT)(a b:vT)(s0:St):Prop:=(bH 34 a fun c=>bC .eql 3 c 0 fun d=>cw d (r1 Q s0 (.int .u64 0)) (bH 34 a fun e=>bR 3 43 e fun f=>bV .rem 43 b f fun g=>bI 34 a g fun h=>bL 43 h fun i=>r1 Q s0 i)) s0
def G8a:=en2 55 f55xS
def E8t:Code:=cp 56 [2,1,0]
def C6w:List Value:=un 3 (a::un 3 (b::c::d::un 7 []))
@[simp]def G2i(C:cT)(K:kT)(I:V4)(a b c d:vT):oT:=bV .lss 3 d c fun e=>cw e (bI 34 b d fun f=>bL 43 f fun g=>A3y (tMap P 117) a g (.bool true) fun _=>bA 3 d fun h=>I a b c h) (K (.exit 0) (ofL (C6w a b c d)))
def D8m:=lp4 h56 E8t 0 C6w G2i (cp 56 [2,1,0,0])
def E6n:A0l:=A0h 0 (kSeq (evC P C h56 (cp 56 [3]) 0 (kB 56 Q s0)) (kB 56 Q s0))
@[simp]theorem F3i:(E6n C Q s0) (.exit 0) (ofL (C6w a b c d)) s=r1 Q s0 a s:=by kernel_rfl
@[simp]def f56xS(C:cT)(Q:pT)(a:vT)(s0:St):Prop:=(newW (mapN (A22 P 117) none) fun b=>bH 34 a fun c=>evC P C h56 E8t 0 (E6n C Q s0) (ofL (C6w b a c (.int .i64 0)))) s0
def G9k:=en1 56 f56xS
@[simp]def D9e(C:cT)(Q:pT)(s0:St)(a b:vT):oT:=bN a fun c=>bF 149 0 c fun d=>bL 144 d fun e=>bI 144 e b fun f=>bF 147 0 f fun g=>bL 43 g fun h=>r2 Q s0 h (.bool true)
@[simp]def C2w:oT:=cf C 96 [a] fun c=>bV .geq 3 b c fun d=>cw d (r2 Q s0 (.int .u64 0) (.bool false)) (D9e C Q s0 a b)
@[simp]def f57xS(C:cT)(Q:pT)(a b:vT)(s0:St):Prop:=(cf C 95 [a,b] fun c=>bE c 0 fun d=>bE c 1 fun e=>cw e (bA 3 d fun f=>C2w C Q s0 a f) (C2w C Q s0 a d)) s0
def G2q:=en2 57 f57xS
@[simp]def f58xS(C:cT)(Q:pT)(a:vT)(s0:St):Prop:=(cf C 98 [a] fun b=>cf C 97 [b] fun c=>r1 Q s0 c) s0
def G5q:=en1 58 f58xS
@[simp]def f59xS(C:cT)(Q:pT)(a b c d:vT)(s0:St):Prop:=(cf C 100 [a,b,c] fun e=>cf C 99 [d,e] fun f=>r1 Q s0 f) s0
def G2k:=en4 59 f59xS
@[simp]def f60xS(C:cT)(Q:pT)(a:vT)(s0:St):Prop:=(nZ 112 fun b=>oN a fun c=>oF 83 5 c fun d=>oL 79 d fun e=>oN a fun f=>oF 83 2 f fun g=>oL 76 g fun h=>oN a fun i=>oF 83 7 i fun j=>oL 81 j fun l=>oN a fun m=>oF 83 6 m fun n=>oL 80 n fun o=>oO (A0r P 112 #[(0,e),(1,h),(2,l),(3,o)]) fun p=>sw 112 b p fun s=>kEnd Q s0 (retV (A03 (A04 (tAgg P 112) b s) (some []))) s) s0
def G24:=en1 60 f60xS
def A4v:Code:=cp 61 [3,1,0,0]
def A4o:Code:=cp 61 [3,1,1]
def A5i:Array Tmp:=#[13, 14]
def B1j:List Value:=un 3 (a::undef::b::c::un 17 [])
@[simp]def C9e(C:cT)(Q:pT)(b:Nat)(L:List vT)(a c d e:vT):oT:=bL 171 c fun f=>bL 3 a fun g=>A0u P C f [e,g] fun h=>cw h (bL 34 d fun i=>newW (bslN (A0e P 34) 1 #[(0,e)]) fun j=>apdW P (A0e P 34) 34 i j fun m=>sw 34 d m fun s=>s.heap b=some (.loop L A5i A4v A4o .busy none)∧Q (.bool true) (s.put b (.loop L A5i A4v A4o .ready none))) (fun s=>s.heap b=some (.loop L A5i A4v A4o .busy none)∧Q (.bool true) (s.put b (.loop L A5i A4v A4o .ready none)))
@[simp]def D5t(C:cT)(Q:pT)(b:Nat)(L:List vT)(a c d y0 y1:vT):oT:=fun s=>s.heap b=some (.loop L A5i A4v A4o .ready none)∧C9e C Q b L a c d y0 (s.put b (.loop L A5i A4v A4o .busy none))
def B98{a c d}:=rf2 h61 A4v A4o 0 24 A5i (B1j a c d) (fun C Q b y0 y1=>D5t C Q b (B1j a c d) a c d y0 y1) rfl
def E7u:A0l:=A0h 0 (kSeq (evC P C h61 (cp 61 [4]) 0 (kB 61 Q s0)) (kB 61 Q s0))
@[simp]theorem C4r:(E7u C Q s0) .normal (ofL (B1j a b c)) s=(bL 34 c fun d=>r1 Q s0 d) s:=by kernel_rfl
@[simp]def f61xS(C:cT)(Q:pT)(a b:vT)(s0:St):Prop:=(nB a fun c=>nB b fun d=>bL 112 c fun e=>bO (mkFn 101 #[e] #[]) fun f=>nZ 171 fun g=>sw 171 g f (nZ 34 fun h=>bF 112 0 c fun i=>bL 79 i fun j=>cf C 76 [j] fun l=>rfW P C 24 (B1j d g h) A5i A4v A4o (evC P C h61 A4v 0) (evC P C h61 A4o 0) (E7u C Q s0) l)) s0
def G5f:=en2 61 f61xS
def E54:Code:=cp 62 [1,0]
def B71:List Value:=a::b::undef::undef::c::un 12 []
@[simp]def G4a(C:cT)(K:kT)(I:V3)(a b c:vT):oT:=bC .lss 3 c 16 fun d=>cw d (bL 80 b fun e=>cf C 63 [e,c] fun f=>wJt f a fun g=>wJt f c fun h=>wt f (fun k s=>A0u P C g [h] k s) fun i=>wOt f (unV .not i) fun j=>bP f j fun l=>cw l (K .ret (ofL (B71 a b c))) (bA 3 c fun m=>I a b m)) (K (.exit 0) (ofL (B71 a b c)))
def D4k:=lp3 h62 E54 0 B71 G4a (cp 62 [1,0,0])
def D6q(C:cT)(Q:pT)(s0:St):A0l:=A0h 0 (kB 62 Q s0)
@[simp]theorem E9t:(D6q C Q s0) (.exit 0) (ofL (B71 a b c)) s=r0 Q s0 s:=by kernel_rfl
@[simp]theorem E32:(D6q C Q s0) .ret (ofL (B71 a b c)) s=r0 Q s0 s:=by kernel_rfl
@[simp]def f62xS(C:cT)(Q:pT)(a b:vT)(s0:St):Prop:=(fun s0=>evC P C h62 E54 0 (D6q C Q s0) (ofL (B71 a b (.int .i64 0))) s0) s0
def G75:=en2 62 f62xS
@[simp]def f63xS(C:cT)(Q:pT)(a b:vT)(s0:St):Prop:=(bZ 80 a fun c=>wJf c b fun d=>wCf c .lss 3 d 0 fun e=>bQ c e fun f=>wJf f b fun g=>wCf f .geq 3 g 16 fun h=>bQ f h fun i=>cw i (r1 Q s0 (.bool false)) (bC .eql 3 b 0 fun j=>wJf j a fun l=>wJf j b fun m=>wOf j (nilV l) fun n=>wFf j 130 0 n fun o=>wIf j 128 o m fun p=>wFf j 127 0 p fun q=>wLf j 4 q fun r=>bQ j r fun t=>r1 Q s0 t)) s0
def H06:=en2 63 f63xS
def E82:Code:=cp 64 [2,0]
def B7y:List Value:=a::un 9 (b::c::d::un 8 [])
@[simp]def G8r(C:cT)(K:kT)(I:V4)(a b c d:vT):oT:=bV .lss 3 d c fun e=>cw e (bI 132 b d fun f=>bL 95 f fun g=>nZ 95 fun h=>sw 95 h g (bL 95 h fun i=>A0u P C a [i] fun j=>bM j fun l=>cw l (K .ret (ofL (B7y a b c d))) (bA 3 d fun m=>I a b c m))) (K (.exit 0) (ofL (B7y a b c d)))
def D7b:=lp4 h64 E82 0 B7y G8r (cp 64 [2,0,0])
def D7w(C:cT)(Q:pT)(s0:St):A0l:=A0h 0 (kB 64 Q s0)
@[simp]theorem E9n:(D7w C Q s0) (.exit 0) (ofL (B7y a b c d)) s=r0 Q s0 s:=by kernel_rfl
@[simp]theorem E3n:(D7w C Q s0) .ret (ofL (B7y a b c d)) s=r0 Q s0 s:=by kernel_rfl
@[simp]def f64xS(C:cT)(Q:pT)(a b:vT)(s0:St):Prop:=(bL 81 b fun c=>bZ 81 c fun d=>cw d (r0 Q s0) (bL 81 b fun e=>bN e fun f=>bF 134 0 f fun g=>bL 132 g fun h=>bH 132 h fun i=>evC P C h64 E82 0 (D7w C Q s0) (ofL (B7y a h i (.int .i64 0))))) s0
def G4r:=en2 64 f64xS
def E77:Code:=cp 65 [1,1,0]
def B7a:List Value:=a::b::undef::undef::c::undef::undef::d::e::un 10 []
@[simp]def G3m(C:cT)(K:kT)(I:V5)(a b c d e:vT):oT:=bV .lss 3 e d fun f=>cw f (bI 34 a e fun g=>bL 43 g fun h=>A0u P C b [h] fun i=>cw i (K .ret (ofL (B7a a b e d e))) (bA 3 e fun j=>I a b c d j)) (K (.exit 0) (ofL (B7a a b c d e)))
def D39:=lp5 h65 E77 0 B7a G3m (cp 65 [1,1,0,0])
def D4t:A0l:=A0h 0 (kSeq (evC P C h65 (cp 65 [2]) 0 (kB 65 Q s0)) (kB 65 Q s0))
@[simp]theorem F2q:(D4t C Q s0) (.exit 0) (ofL (B7a a b c d e)) s=r1 Q s0 (.int .i64 (-1)) s:=by kernel_rfl
@[simp]theorem E26:(D4t C Q s0) .ret (ofL (B7a a b c d e)) s=r1 Q s0 c s:=by kernel_rfl
@[simp]def f65xS(C:cT)(Q:pT)(a b:vT)(s0:St):Prop:=(bH 34 a fun c=>evC P C h65 E77 0 (D4t C Q s0) (ofL (B7a a b (.int .i64 0) c (.int .i64 0)))) s0
def G3t:=en2 65 f65xS
def E7d:Code:=cp 66 [2,0]
def B69:List Value:=a::b::c::d::un 4 (e::f::un 124 [])
@[simp]def A3l(C:cT)(K:kT)(I:V6)(a b c d e f:vT):oT:=cf C 110 [a,b,c,f] fun g=>bE g 0 fun h=>bE g 1 fun i=>bV .sub 3 h b fun j=>bV .sub 3 c h fun l=>bC .quo 3 e 8 fun m=>bV .lss 3 j l fun n=>cw n (bV .geq 3 j m fun o=>cf C 66 [a,b,h,d] fun _=>bA 3 h fun p=>I a p c d o i) (bV .geq 3 l m fun q=>bA 3 h fun r=>cf C 66 [a,r,c,d] fun _=>I a b h d q i)
@[simp]def A24(C:cT)(K:kT)(I:V6)(a b c d e f g h:vT):oT:=oC .gtr 3 b 0 fun i=>gJt i a fun j=>gJt i b fun l=>gOt i (binV P .sub 3 l (.int .i64 1)) fun m=>gIt i 34 j m fun n=>gLt i 43 n fun o=>gJt i a fun p=>gJt i h fun q=>gIt i 34 p q fun r=>gLt i 43 r fun t=>wt i (fun k s=>A0u P C (fv 108) [o,t] k s) fun u=>gOt i (unV .not u) fun v=>oP i v fun w=>cw w (cf C 109 [a,b,c,h] fun x=>I a x c d e f) (A3l C K I a b c d g h)
@[simp]def A25(C:cT)(K:kT)(I:V6)(a b c d e f g h i:vT):oT:=wJt e f fun j=>bP e j fun l=>wJt l i fun m=>wCt l .eql 183 m 1 fun n=>bP l n fun o=>cw o (cf C 107 [a,b,c] fun p=>cw p (K .ret (ofL (B69 a b c d e f))) (A24 C K I a b c d e f g h)) (A24 C K I a b c d e f g h)
@[simp]def A23(C:cT)(K:kT)(I:V6)(a b c d e f g:vT):oT:=cf C 105 [a,b,c] fun h=>bE h 0 fun i=>bE h 1 fun j=>bC .eql 183 j 2 fun l=>cw l (cf C 106 [a,b,c] fun _=>bC .sub 3 c 1 fun m=>bV .sub 3 i b fun n=>bV .sub 3 m n fun o=>A25 C K I a b c d e f g o (.int .i64 1)) (A25 C K I a b c d e f g i j)
@[simp]def A30(C:cT)(K:kT)(I:V6)(a b c d e f g:vT):oT:=bM e fun h=>cw h (cf C 104 [a,b,c] fun _=>bC .sub 3 d 1 fun i=>A23 C K I a b c i e f g) (A23 C K I a b c d e f g)
@[simp]def A32(C:cT)(K:kT)(I:V6)(a b c d e f g:vT):oT:=bC .eql 3 d 0 fun h=>cw h (cf C 103 [a,b,c] fun _=>K .ret (ofL (B69 a b c d e f))) (A30 C K I a b c d e f g)
@[simp]def H0y(C:cT)(K:kT)(I:V6)(a b c d e f:vT):oT:=bV .sub 3 c b fun g=>bC .leq 3 g 12 fun h=>cw h (cf C 102 [a,b,c] fun _=>K .ret (ofL (B69 a b c d e f))) (A32 C K I a b c d e f g)
def D65:=lp6 h66 E7d 0 B69 H0y (cp 66 [2,0,0])
def B8c(C:cT)(Q:pT)(s0:St):A0l:=A0h 0 (kB 66 Q s0)
@[simp]theorem E11:(B8c C Q s0) .ret (ofL (B69 a b c d e f)) s=r0 Q s0 s:=by kernel_rfl
@[simp]def f66xS(C:cT)(Q:pT)(a b c d:vT)(s0:St):Prop:=(fun s0=>evC P C h66 E7d 0 (B8c C Q s0) (ofL (B69 a b c d (.bool true) (.bool true))) s0) s0
def G6b:=en4 66 f66xS
@[simp]def f67xS(C:cT)(Q:pT)(a:vT)(s0:St):Prop:=(cw (.bool false) (bR 138 191 a fun b=>cf C 111 [b] fun c=>r1 Q s0 c) (cf C 112 [a] fun d=>r1 Q s0 d)) s0
def G4c:=en1 67 f67xS
@[simp]def f68xS(C:cT)(Q:pT)(a:vT)(s0:St):Prop:=(bV .eql 47 a (.slice none 0 0) fun b=>cw b (r1 Q s0 (.slice none 0 0)) (newW (bslN (A0e P 47) 0 #[]) fun c=>apdW P (A0e P 47) 47 c a fun d=>r1 Q s0 d)) s0
def G3o:=en1 68 f68xS
@[simp]def f69xS(C:cT)(Q:pT)(a:vT)(s0:St):Prop:=(bZ 78 a fun b=>wJf b a fun c=>wOf b (nilV c) fun d=>wFf b 143 0 d fun e=>wLf b 140 e fun f=>wOf b (binV P .eql 140 f (.pointer none)) fun g=>bQ b g fun h=>cw h (cf C 89 [] fun i=>r1 Q s0 i) (bN a fun j=>bF 143 0 j fun l=>bL 140 l fun m=>r1 Q s0 m)) s0
def G9x:=en1 69 f69xS
@[simp]def f70xS(C:cT)(Q:pT)(a:vT)(s0:St):Prop:=(bV .eql 144 a (.slice none 0 0) fun b=>cw b (r1 Q s0 (.slice none 0 0)) (newW (bslN (A0e P 144) 0 #[]) fun c=>apdW P (A0e P 144) 144 c a fun d=>r1 Q s0 d)) s0
def H0a:=en1 70 f70xS
@[simp]def f71xS(C:cT)(Q:pT)(a:vT)(s0:St):Prop:=(bV .eql 132 a (.slice none 0 0) fun b=>cw b (r1 Q s0 (.slice none 0 0)) (newW (bslN (A0e P 132) 0 #[]) fun c=>apdW P (A0e P 132) 132 c a fun d=>r1 Q s0 d)) s0
def G6t:=en1 71 f71xS
@[simp]def D7c(C:cT)(Q:pT)(s0:St)(a b:vT):oT:=bL 152 b fun c=>sw 152 a c fun s=>kEnd Q s0 (retV (A03 (A04 (tAgg P 152) a s) (A03 (some (.bool true)) (some [])))) s
@[simp]def E58:oT:=bF 152 0 b fun c=>sw 4 c (.bool true) (D7c C Q s0 a b)
@[simp]def E8x:oT:=bF 152 1 b fun c=>sw 4 c (.bool true) (E58 C Q s0 a b)
@[simp]def E8f:oT:=bF 152 1 b fun c=>sw 4 c (.bool true) (D7c C Q s0 a b)
@[simp]def D8a:oT:=cw d (E8x C Q s0 a b) (bC .eql 3 c 5 fun e=>cw e (E58 C Q s0 a b) (bC .eql 3 c 6 fun f=>cw f (bF 152 2 b fun g=>sw 4 g (.bool true) (E8f C Q s0 a b)) (bC .eql 3 c 7 fun h=>cw h (E8f C Q s0 a b) (bC .eql 3 c 8 fun i=>cw i (D7c C Q s0 a b) (bL 152 b fun j=>sw 152 a j fun s=>kEnd Q s0 (retV (A03 (A04 (tAgg P 152) a s) (A03 (some (.bool false)) (some [])))) s)))))
@[simp]def D8i:oT:=cw d (bF 152 3 b fun e=>sw 4 e (.bool true) (E8x C Q s0 a b)) (bC .eql 3 c 2 fun f=>cw f (D8a C Q s0 a b c f) (bC .eql 3 c 4 fun g=>D8a C Q s0 a b c g))
@[simp]def f72xS(C:cT)(Q:pT)(a:vT)(s0:St):Prop:=(nZ 152 fun b=>nZ 152 fun c=>bC .eql 3 a 1 fun d=>cw d (D8i C Q s0 b c a d) (bC .eql 3 a 3 fun e=>D8i C Q s0 b c a e)) s0
def G6x:=en1 72 f72xS
@[simp]def f73xS(C:cT)(Q:pT)(a b:vT)(s0:St):Prop:=(nB a fun c=>nB b fun d=>bF 49 8 c fun e=>bL 47 e fun f=>bF 49 8 d fun g=>bL 47 g fun h=>cf C 113 [f,h] fun i=>wFt i 49 0 c fun j=>wLt i 3 j fun l=>wFt i 49 0 d fun m=>wLt i 3 m fun n=>wVt i .eql 3 l n fun o=>bP i o fun p=>wFt p 49 1 c fun q=>wLt p 43 q fun r=>wFt p 49 1 d fun t=>wLt p 43 t fun u=>wVt p .eql 43 r u fun v=>bP p v fun w=>wFt w 49 2 c fun x=>wLt w 3 x fun y=>wFt w 49 2 d fun z=>wLt w 3 z fun A=>wVt w .eql 3 y A fun B=>bP w B fun D=>wFt D 49 3 c fun E=>wLt D 46 E fun F=>wFt D 49 3 d fun G=>wLt D 46 G fun H=>wVt D .eql 46 F H fun J=>bP D J fun M=>wFt M 49 4 c fun N=>wLt M 43 N fun O=>wFt M 49 4 d fun R=>wLt M 43 R fun T=>wVt M .eql 43 O T fun U=>bP M U fun V=>wFt V 49 5 c fun W=>wLt V 3 W fun X=>wFt V 49 5 d fun Y=>wLt V 3 Y fun Z=>wVt V .eql 3 X Z fun a0=>bP V a0 fun a1=>wFt a1 49 6 c fun a2=>wLt a1 3 a2 fun a3=>wFt a1 49 6 d fun a4=>wLt a1 3 a4 fun a5=>wVt a1 .eql 3 a3 a5 fun a6=>bP a1 a6 fun a7=>wFt a7 49 7 c fun a8=>wLt a7 3 a8 fun a9=>wFt a7 49 7 d fun b0=>wLt a7 3 b0 fun b1=>wVt a7 .eql 3 a9 b1 fun b2=>bP a7 b2 fun b3=>r1 Q s0 b3) s0
def G9w:=en2 73 f73xS
@[simp]def f74xS(C:cT)(Q:pT)(a b:vT)(s0:St):Prop:=(bC .geq 3 a 0 fun c=>wJt c a fun d=>wJt c b fun e=>wVt c .leq 3 d e fun f=>bP c f fun g=>r1 Q s0 g) s0
def G52:=en2 74 f74xS
end
end Go.Zz
