import Derived.Test.YtnghaapdoanabaaGreatDoorU0
set_option linter.all false
set_option maxRecDepth 20000
set_option linter.all false
namespace Go.Zz
open Go
noncomputable section
variable (C:cT)(K:kT)(Q:pT)(s0:St)(a b c d e f g h i j l m n o p q r t u v w x y z A B D E F G H J M N O R T U V W X Y Z a0 a1 a2 a3 a4 a5 a6 a7 a8 a9 b0 b1 b2 b3 b4 b5 b6 b7 b8 b9:vT)(s:St)
def G9e:Code:=cp 9 [2,1,0]
def C8r:List Value:=a::b::undef::undef::c::d::un 68 []
@[simp]def B8i(C:cT)(K:kT)(I:V4)(a b c d:vT):oT:=bA 3 d fun e=>I a b c e
@[simp]def B9r(C:cT)(K:kT)(I:V4)(a b c d:vT):oT:=bI 23 b d fun e=>bF 60 4 e fun f=>bL 3 f fun g=>bC .lss 3 g 0 fun h=>wJf h b fun i=>wJf h d fun j=>wIf h 23 i j fun l=>wFf h 60 4 l fun m=>wLf h 3 m fun n=>wCf h .gtr 3 n 1000 fun o=>bQ h o fun p=>cw p (K .ret (ofL (C8r a b (.pointer none) d))) (B8i C K I a b c d)
@[simp]def f9xB0(C:cT)(K:kT)(I:V4)(a b c d:vT):oT:=bH 23 b fun e=>bV .lss 3 d e fun f=>cw f (B9r C K I a b c d) (K (.exit 0) (ofL (C8r a b c d)))
def E41:=lp4 h9 G9e 0 C8r f9xB0 (cp 9 [2,1,0,0])
def G2h:Code:=cp 9 [5,1,0]
def E2u:List Value:=un 6 (a::un 39 (b::c::d::un 25 []))
@[simp]def A92(C:cT)(K:kT)(I:V4)(a b c d:vT):oT:=bA 3 d fun e=>I a b c e
@[simp]def C1f(C:cT)(K:kT)(I:V4)(a b c d:vT):oT:=bI 23 b d fun e=>bL 60 e fun f=>nZ 60 fun g=>sw 60 g f (bF 60 0 g fun h=>bL 3 h fun i=>bC .eql 3 i 3 fun j=>cw j (oF 60 4 g fun l=>oL 3 l fun m=>cf C 13 [a] fun n=>kL 3 l m (oV .add 3 n m fun o=>cf C 23 [a,o] fun _=>A92 C K I a b c d)) (bC .eql 3 i 8 fun p=>cw p (cf C 24 [a,(.bool true)] fun _=>A92 C K I a b c d) (bL 60 g fun q=>cf C 25 [a,q] fun r=>cf C 16 [a,r] fun _=>A92 C K I a b c d)))
@[simp]def f9xB1(C:cT)(K:kT)(I:V4)(a b c d:vT):oT:=bV .lss 3 d c fun e=>cw e (C1f C K I a b c d) (K (.exit 2) (ofL (E2u a b c d)))
def E3j:=lp4 h9 G2h 2 E2u f9xB1 (cp 9 [5,1,0,0])
@[simp]def B8p(C:cT)(Q:pT)(s0:St)(a:vT):oT:=r1 Q s0 a
def G6f:A0l:=A0h 2 (kSeq (evC P C h9 (cp 9 [6]) 0 (kB 9 Q s0)) (kB 9 Q s0))
@[simp]theorem G0m:(G6f C Q s0) (.exit 2) (ofL (E2u a b c d)) s=B8p C Q s0 a s:=by kernel_rfl
@[simp]def B85:oT:=bH 23 a fun c=>evC P C h9 G2h 2 (G6f C Q s0) (ofL (E2u b a c (.int .i64 0)))
@[simp]def B92:oT:=cf C 22 [a] fun c=>cf C 21 [c] fun d=>bE d 0 fun e=>bE d 1 fun f=>bC .neq 41 f 0 fun g=>cw g (r1 Q s0 (.pointer none)) (B85 C Q s0 b e)
@[simp]def C39:oT:=B92 C Q s0 a b
def D25:A0l:=A0h 0 (kSeq (evC P C h9 (cp 9 [3]) 0 (kB 9 Q s0)) (kB 9 Q s0))
@[simp]theorem F9e:(D25 C Q s0) (.exit 0) (ofL (C8r a b c d)) s=C39 C Q s0 a b s:=by kernel_rfl
@[simp]theorem E57:(D25 C Q s0) .ret (ofL (C8r a b c d)) s=r1 Q s0 c s:=by kernel_rfl
@[simp]def B1y:oT:=evC P C h9 G9e 0 (D25 C Q s0) (ofL (C8r a b c (.int .i64 0)))
@[simp]def f9xS(C:cT)(Q:pT)(a b:vT)(s0:St):Prop:=(bH 23 b fun c=>bC .gtr 3 c 14 fun d=>wJf d a fun e=>wHf d 22 e fun f=>wCf d .gtr 3 f 6 fun g=>bQ d g fun h=>cw h (r1 Q s0 (.pointer none)) (B1y C Q s0 a b (.pointer none))) s0
def f9xin:=en2 9 f9xS
@[simp]def D6g:oT:=newW (mslN (A0e P 47) (.int .i64 32) (.int .i64 32)) fun b=>bO (A0r P 49 #[(0,(.int .i64 1)),(1,(.int .u64 1)),(8,b)]) fun c=>cf C 16 [a,c] fun d=>cf C 18 [a,(.int .i64 2),(.int .i64 10),(.int .i64 100)] fun e=>bE e 0 fun f=>bE e 1 fun g=>newW (bslN (A0e P 28) 2 #[(0,(.int .i64 0)),(1,(.int .i64 60))]) fun h=>cf C 11 [a,h] fun i=>bC .eql 41 d 0 fun j=>wJt j f fun l=>wCt j .eql 3 l 20 fun m=>bP j m fun n=>wJt n g fun o=>bP n o fun p=>wJt p i fun q=>wHt p 30 q fun r=>wCt p .eql 3 r 2 fun t=>bP p t fun u=>wJt u i fun v=>wIt u 30 v (.int .i64 0) fun w=>wLt u 33 w fun x=>wOt u (A0r P 33 #[(1,(.int .i64 1))]) fun y=>wVt u .eql 33 x y fun z=>bP u z fun A=>wJt A i fun B=>wIt A 30 B (.int .i64 1) fun D=>wLt A 33 D fun E=>wOt A (A0r P 33 #[(0,(.int .i64 60)),(1,(.int .i64 1))]) fun F=>wVt A .eql 33 E F fun G=>bP A G fun H=>wJt H a fun J=>wt H (fun k s=>A0u P C (fv 17) [J] k s) fun M=>wVt H .eql 43 M (.int .u64 1) fun N=>bP H N fun O=>r1 Q s0 O
@[simp]def f10xS(C:cT)(Q:pT)(s0:St):Prop:=(bO (A0r P 72 #[(0,(.int .i64 1)),(2,(.int .i64 60))]) fun a=>newW (bslN (A0e P 22) 1 #[(0,a)]) fun b=>cf C 22 [b] fun c=>cf C 21 [c] fun d=>bE d 0 fun e=>bE d 1 fun f=>bC .neq 41 f 0 fun g=>cw g (r1 Q s0 (.bool false)) (D6g C Q s0 e)) s0
def G3y:=en0 10 f10xS
def E5y:Code:=cp 11 [4,1,0]
def C60:List Value:=un 5 (a::b::un 6 (c::d::e::un 14 []))
@[simp]def G47(C:cT)(K:kT)(I:V5)(a b c d e:vT):oT:=bV .lss 3 e d fun f=>cw f (bI 28 c e fun g=>bL 3 g fun h=>A0u P C a [h] fun i=>bH 34 i fun j=>bO (A0r P 33 #[(0,h),(1,j)]) fun l=>newW (bslN (A0e P 30) 1 #[(0,l)]) fun m=>apdW P (A0e P 30) 30 b m fun n=>bA 3 e fun o=>I a n c d o) (K (.exit 0) (ofL (C60 a b c d e)))
def D44:=lp5 h11 E5y 0 C60 G47 (cp 11 [4,1,0,0])
def E49:A0l:=A0h 0 (kSeq (evC P C h11 (cp 11 [5]) 0 (kB 11 Q s0)) (kB 11 Q s0))
@[simp]theorem E9s:(E49 C Q s0) (.exit 0) (ofL (C60 a b c d e)) s=r1 Q s0 b s:=by kernel_rfl
@[simp]def f11xS(C:cT)(Q:pT)(a b:vT)(s0:St):Prop:=(bZ 25 a fun c=>cw c (r1 Q s0 (.slice none 0 0)) (bO (mkFn 12 #[a] #[]) fun d=>bH 28 b fun e=>evC P C h11 E5y 0 (E49 C Q s0) (ofL (C60 d (.slice none 0 0) b e (.int .i64 0))))) s0
def E64:=en2 11 f11xS
def A4r:Code:=cp 12 [3,1,0,0]
def A40:Code:=cp 12 [3,1,1]
def A5f:Array Tmp:=#[28]
def B09:List Value:=undef::undef::a::b::undef::c::un 64 []
@[simp]def C9s(C:cT)(Q:pT)(b:Nat)(L:List vT)(a c d:vT):oT:=bL 25 a fun e=>bN e fun f=>bF 83 6 f fun g=>bL 80 g fun h=>cf C 30 [h,d] fun i=>bE i 0 fun j=>bE i 1 fun m=>wJt m d fun n=>wCt m .neq 3 n 0 fun o=>bP m o fun p=>cw p (bL 34 c fun q=>newW (bslN (A0e P 34) 1 #[(0,j)]) fun r=>apdW P (A0e P 34) 34 q r fun t=>sw 34 c t fun s=>s.heap b=some (.loop L A5f A4r A40 .busy none)∧Q (.bool true) (s.put b (.loop L A5f A4r A40 .ready none))) (fun s=>s.heap b=some (.loop L A5f A4r A40 .busy none)∧Q (.bool true) (s.put b (.loop L A5f A4r A40 .ready none)))
@[simp]def D50(C:cT)(Q:pT)(b:Nat)(L:List vT)(a c y0:vT):oT:=fun s=>s.heap b=some (.loop L A5f A4r A40 .ready none)∧C9s C Q b L a c y0 (s.put b (.loop L A5f A4r A40 .busy none))
def B89{a c d}:=rf1 h12 A4r A40 0 70 A5f (B09 a c d) (fun C Q b y=>D50 C Q b (B09 a c d) a d y) rfl
def A4n:Code:=cp 12 [4,1,0,0]
def A4y:Code:=cp 12 [4,1,1]
def A5g:Array Tmp:=#[52]
def A9e:List Value:=undef::undef::a::b::undef::c::un 64 []
@[simp]def B24(C:cT)(Q:pT)(b:Nat)(L:List vT)(a c d:vT):oT:=bF 95 0 d fun e=>bF 93 3 e fun f=>bL 3 f fun g=>bL 3 a fun h=>bV .gtr 3 g h fun i=>cw i (bL 34 c fun j=>bF 95 1 d fun m=>bL 43 m fun n=>newW (bslN (A0e P 34) 1 #[(0,n)]) fun o=>apdW P (A0e P 34) 34 j o fun p=>sw 34 c p fun s=>s.heap b=some (.loop L A5g A4n A4y .busy none)∧Q (.bool true) (s.put b (.loop L A5g A4n A4y .ready none))) (fun s=>s.heap b=some (.loop L A5g A4n A4y .busy none)∧Q (.bool true) (s.put b (.loop L A5g A4n A4y .ready none)))
@[simp]def D57(C:cT)(Q:pT)(b:Nat)(L:List vT)(a c y0:vT):oT:=nZ 95 fun d=>sw 95 d y0 fun s=>s.heap b=some (.loop L A5g A4n A4y .ready none)∧B24 C Q b L a c d (s.put b (.loop L A5g A4n A4y .busy none))
def B8m{a c d}:=rf1 h12 A4n A4y 2 70 A5g (A9e a c d) (fun C Q b y=>D57 C Q b (A9e a c d) c d y) rfl
@[simp]def E5e:oT:=bL 34 b fun c=>bO (mkFn 33 #[] #[a]) fun d=>cf C 32 [c,d] fun e=>sw 34 b e (bL 34 b fun f=>cf C 34 [f] fun _=>bL 34 b fun g=>cf C 35 [g] fun h=>r1 Q s0 h)
def E47:A0l:=A0h 2 (kSeq (evC P C h12 (cp 12 [5]) 0 (kB 12 Q s0)) (kB 12 Q s0))
@[simp]theorem C5d:(E47 C Q s0) .normal (ofL (A9e a b c)) s=E5e C Q s0 a c s:=by kernel_rfl
@[simp]def E53:oT:=bL 25 a fun d=>bN d fun e=>bF 83 7 e fun f=>bL 81 f fun g=>cf C 31 [g] fun h=>rfW P C 70 (A9e a b c) A5g A4n A4y (evC P C h12 A4n 2) (evC P C h12 A4y 2) (E47 C Q s0) h
def E6m:A0l:=A0h 0 (kSeq (evC P C h12 (cp 12 [4]) 0 (kB 12 Q s0)) (kB 12 Q s0))
@[simp]theorem C49:(E6m C Q s0) .normal (ofL (B09 a b c)) s=E53 C Q s0 a b c s:=by kernel_rfl
@[simp]def E52:oT:=oL 25 a fun c=>oL 3 b fun d=>oL 25 a fun e=>oL 3 b fun f=>oL 25 a fun g=>oN g fun h=>oF 83 5 h fun i=>oL 79 i fun j=>mw (B40 (A2r P 34)) (cf C 27 [c,d] fun l=>kL 25 a e (kL 3 b f (kL 25 a g (kL 79 i j (cf C 28 [e,f] fun m=>kL 25 a g (kL 79 i j (cf C 26 [l,m,j] fun n=>nZ 34 fun o=>sw 34 o n (bL 25 a fun p=>bN p fun q=>bF 83 6 q fun r=>bL 80 r fun t=>cf C 29 [t] fun u=>rfW P C 70 (B09 a b o) A5f A4r A40 (evC P C h12 A4r 0) (evC P C h12 A40 0) (E6m C Q s0) u))))))))
@[simp]def f12xS(C:cT)(Q:pT)(a b:vT)(s0:St):Prop:=(nB a fun c=>nB b fun d=>bL 25 c fun e=>bZ 25 e fun f=>cw f (r1 Q s0 (.slice none 0 0)) (E52 C Q s0 c d)) s0
def G8n:=en2 12 f12xS
@[simp]def f13xS(C:cT)(Q:pT)(a:vT)(s0:St):Prop:=(bZ 25 a fun b=>cw b (r1 Q s0 (.int .i64 0)) (bN a fun c=>bF 83 8 c fun d=>bL 3 d fun e=>r1 Q s0 e)) s0
def H0s:=en1 13 f13xS
def E7g:Code:=cp 14 [4,1,0]
def C75:List Value:=a::undef::undef::b::un 13 (c::un 34 [])
@[simp]def G3a(C:cT)(K:kT)(I:V3)(a b c:vT):oT:=B28 false c fun d=>bE d 0 fun e=>cw e (A7k c fun f=>bE f 0 fun g=>bE f 1 fun h=>nZ 49 fun i=>sw 49 i h (oF 83 3 b fun j=>oL 77 j fun l=>oL 49 i fun m=>cf C 36 [m] fun n=>kL 77 j l (A3y (tMap P 77) l g n fun _=>I a b c))) (K (.exit 0) (ofL (C75 a b c)))
def D6s:=lp3 h14 E7g 0 C75 G3a (cp 14 [4,1,0,0])
@[simp]def D81:oT:=oN a fun c=>oF 83 4 c fun d=>oL 78 d fun e=>oN a fun f=>oF 83 5 f fun g=>oL 79 g fun h=>oN a fun i=>oF 83 6 i fun j=>oL 80 j fun l=>oN a fun m=>oF 83 7 m fun n=>oL 81 n fun o=>cf C 37 [e] fun p=>kL 79 g h (kL 80 j l (kL 81 n o (cf C 38 [h] fun q=>kL 80 j l (kL 81 n o (cf C 39 [l] fun r=>kL 81 n o (cf C 40 [o] fun t=>oF 83 4 b fun u=>sw 78 u p (oF 83 5 b fun v=>sw 79 v q (oF 83 6 b fun w=>sw 80 w r (oF 83 7 b fun x=>sw 81 x t (r1 Q s0 b))))))))))
@[simp]def A8d:oT:=D81 C Q s0 a b
def E46:A0l:=A0h 0 (kSeq (evC P C h14 (cp 14 [5]) 0 (kB 14 Q s0)) (kB 14 Q s0))
@[simp]theorem F1l:(E46 C Q s0) (.exit 0) (ofL (C75 a b c)) s=A8d C Q s0 a b s:=by kernel_rfl
@[simp]def f14xS(C:cT)(Q:pT)(a:vT)(s0:St):Prop:=(bZ 25 a fun b=>cw b (r1 Q s0 (.pointer none)) (bN a fun c=>bL 83 c fun d=>nZ 83 fun e=>sw 83 e d (newW (mapN (A22 P 77) none) fun f=>bF 83 3 e fun g=>sw 77 g f (bN a fun h=>bF 83 3 h fun i=>bL 77 i fun j=>A75 (A22 P 77) j fun l=>evC P C h14 E7g 0 (E46 C Q s0) (ofL (C75 a e l)))))) s0
def G56:=en1 14 f14xS
@[simp]def A7h:oT:=oN a fun c=>oF 83 3 c fun d=>oL 77 d fun e=>oF 49 1 b fun f=>oL 43 f fun g=>oL 49 b fun h=>cf C 36 [h] fun i=>kL 77 d e (kL 43 f g (A3y (tMap P 77) e g i fun _=>oF 49 1 b fun j=>oL 43 j fun l=>oF 49 2 b fun m=>oL 3 m fun n=>oN a fun o=>oF 83 9 o fun p=>sw 43 p l (kL 3 m n (oN a fun q=>oF 83 8 q fun r=>sw 3 r n (r1 Q s0 (.int .i64 0))))))
@[simp]def A69:oT:=bL 108 (.pointer (some ⟨0,0,none⟩)) fun c=>bF 49 0 b fun d=>bL 3 d fun e=>bS (fun s=>B0y (tMap P 108) c e false s) fun f=>bL 49 b fun g=>A0u P C f [a,g] fun h=>bC .neq 41 h 0 fun i=>cw i (r1 Q s0 h) (A7h C Q s0 a b)
@[simp]def f16xS(C:cT)(Q:pT)(a b:vT)(s0:St):Prop:=(nB b fun c=>bZ 25 a fun d=>cw d (r1 Q s0 (.int .i64 1)) (bL 49 c fun e=>cf C 41 [e] fun f=>bM f fun g=>cw g (r1 Q s0 (.int .i64 3)) (oF 49 1 c fun h=>oL 43 h fun i=>oN a fun j=>oF 83 9 j fun l=>oL 43 l fun m=>oV .leq 43 i m fun n=>gFf n 49 2 c fun o=>gLf n 3 o fun p=>gJf n a fun q=>gOf n (nilV q) fun r=>gFf n 83 8 r fun t=>gLf n 3 t fun u=>gOf n (binV P .lss 3 p u) fun v=>oQ n v fun w=>cw w (r1 Q s0 (.int .i64 15)) (oL 49 c fun x=>cf C 42 [x] fun y=>gFt y 49 3 c fun z=>gFt y 46 1 z fun A=>gLt y 3 A fun B=>gJt y a fun D=>gOt y (nilV D) fun E=>gFt y 83 0 E fun F=>gLt y 3 F fun G=>gOt y (binV P .geq 3 B G) fun H=>gJt y H fun J=>gFf J 49 3 c fun M=>gFf J 46 2 M fun N=>gLf J 3 N fun O=>gJf J a fun R=>gOf J (nilV R) fun T=>gFf J 83 1 T fun U=>gLf J 3 U fun V=>gOf J (binV P .geq 3 O V) fun W=>gOt y (A6r J (.bool true) W) fun X=>oP y X fun Y=>cw Y (r1 Q s0 (.int .i64 2)) (A69 C Q s0 a c))))) s0
def G1o:=en2 16 f16xS
@[simp]def f17xS(C:cT)(Q:pT)(a:vT)(s0:St):Prop:=(bZ 25 a fun b=>cw b (r1 Q s0 (.int .u64 0)) (bN a fun c=>bF 83 9 c fun d=>bL 43 d fun e=>r1 Q s0 e)) s0
def G7k:=en1 17 f17xS
def E6e:Code:=cp 18 [6,0]
def B68:List Value:=undef::a::b::c::un 4 (d::e::f::g::h::i::un 45 [])
@[simp]def B79(C:cT)(K:kT)(I:V9)(a b c d e f g h i:vT):oT:=bL 46 h fun j=>cf C 44 [f,g,j] fun l=>cf C 16 [f,l] fun m=>bC .neq 41 m 0 fun n=>cw n (K .ret (ofL (B68 a b c (.int .i64 0) (.bool false) f g h i))) (I a b c d e f g h (.bool false))
@[simp]def D8n(C:cT)(K:kT)(I:V9)(a b c d e f g h i:vT):oT:=bM i fun j=>cw j (bL 46 h fun l=>cf C 43 [f,g,l] fun m=>sw 46 h m (B79 C K I a b c d e f g h i)) (B79 C K I a b c d e f g h i)
@[simp]def G2o(C:cT)(K:kT)(I:V9)(a b c d e f g h i:vT):oT:=bV .lss 3 c g fun j=>wJf j b fun l=>wJf j c fun m=>wJf j g fun n=>wVf j .sub 3 m n fun o=>wVf j .gtr 3 l o fun p=>bQ j p fun q=>cw q (K .ret (ofL (B68 a b c (.int .i64 0) (.bool false) f g h i))) (bV .add 3 g b fun r=>cf C 12 [f,r] fun t=>bH 34 t fun u=>bA 3 u fun v=>bV .gtr 3 v a fun w=>cw w (K .ret (ofL (B68 a b c r (.bool true) f r h i))) (D8n C K I a b c d e f r h i))
def D9c:=lp9 h18 E6e 0 B68 G2o (cp 18 [6,0,0])
def D59(C:cT)(Q:pT)(s0:St):A0l:=A0h 0 (kB 18 Q s0)
@[simp]theorem E4x:(D59 C Q s0) .ret (ofL (B68 a b c d e f g h i)) s=r2 Q s0 d e s:=by kernel_rfl
@[simp]def f18xS(C:cT)(Q:pT)(a b c d:vT)(s0:St):Prop:=(bZ 25 a fun e=>wJf e c fun f=>wCf e .lss 3 f 1 fun g=>bQ e g fun h=>cw h (r2 Q s0 (.int .i64 0) (.bool false)) (cf C 14 [a] fun i=>cf C 13 [i] fun j=>bO (A0r P 46 #[]) fun l=>nZ 46 fun m=>sw 46 m l (evC P C h18 E6e 0 (D59 C Q s0) (ofL (B68 b c d (.int .i64 0) (.bool false) i j m (.bool true)))))) s0
def D5j:=en4 18 f18xS
@[simp]def f19xS(C:cT)(Q:pT)(a:vT)(s0:St):Prop:=(bZ 25 a fun b=>cw b (r1 Q s0 (.slice none 0 0)) (cf C 45 [a] fun c=>cf C 13 [a] fun d=>cf C 46 [c,d] fun e=>cf C 11 [a,e] fun f=>r1 Q s0 f)) s0
def E88:=en1 19 f19xS
def E7t:Code:=cp 20 [3,1,0]
def C5v:List Value:=un 3 (a::un 7 (b::un 11 []))
@[simp]def G72(C:cT)(K:kT)(I:V2)(a b:vT):oT:=B28 false b fun c=>bE c 0 fun d=>cw d (A7k b fun e=>bE e 0 fun f=>newW (bslN (A0e P 34) 1 #[(0,f)]) fun g=>apdW P (A0e P 34) 34 a g fun h=>I h b) (K (.exit 0) (ofL (C5v a b)))
def D9i:=lp2 h20 E7t 0 C5v G72 (cp 20 [3,1,0,0])
@[simp]def A7d:oT:=cf C 34 [a] fun _=>r1 Q s0 a
def E76:A0l:=A0h 0 (kSeq (evC P C h20 (cp 20 [4]) 0 (kB 20 Q s0)) (kB 20 Q s0))
@[simp]theorem F0n:(E76 C Q s0) (.exit 0) (ofL (C5v a b)) s=A7d C Q s0 a s:=by kernel_rfl
@[simp]def f20xS(C:cT)(Q:pT)(a:vT)(s0:St):Prop:=(bZ 25 a fun b=>cw b (r1 Q s0 (.slice none 0 0)) (bN a fun c=>bF 83 3 c fun d=>bL 77 d fun e=>A75 (A22 P 77) e fun f=>evC P C h20 E7t 0 (E76 C Q s0) (ofL (C5v (.slice none 0 0) f)))) s0
def G7m:=en1 20 f20xS
@[simp]def B7b:oT:=oF 66 2 a fun c=>oL 3 c fun d=>oF 66 3 a fun e=>oL 3 e fun f=>oL 76 b fun g=>mw (mapN (A22 P 77) none) (cf C 48 [] fun h=>kL 3 c d (kL 3 e f (kL 76 b g (cf C 49 [] fun i=>kL 3 c d (kL 3 e f (kL 76 b g (cf C 50 [] fun j=>kL 3 c d (kL 3 e f (kL 76 b g (cf C 51 [] fun l=>kL 3 c d (kL 3 e f (kL 76 b g (newW (mapN (A22 P 77) none) fun m=>bO (A0r P 83 #[(0,d),(1,f),(2,g),(3,m),(4,h),(5,i),(6,j),(7,l)]) fun n=>nB n fun o=>r2 Q s0 o (.int .i64 0))))))))))))))
@[simp]def D6z:oT:=bF 66 5 a fun b=>bL 22 b fun c=>cf C 47 [c] fun d=>bE d 0 fun e=>bE d 1 fun f=>nZ 76 fun g=>sw 76 g e (bC .neq 41 f 0 fun h=>cw h (r2 Q s0 (.pointer none) f) (B7b C Q s0 a g))
@[simp]def f21xS(C:cT)(Q:pT)(a:vT)(s0:St):Prop:=(nB a fun b=>bF 66 2 b fun c=>bL 3 c fun d=>bC .lss 3 d 1 fun e=>wFf e 66 2 b fun f=>wLf e 3 f fun g=>wCf e .gtr 3 g 8 fun h=>bQ e h fun i=>wFf i 66 3 b fun j=>wLf i 3 j fun l=>wCf i .lss 3 l 1 fun m=>bQ i m fun n=>wFf n 66 3 b fun o=>wLf n 3 o fun p=>wCf n .gtr 3 p 256 fun q=>bQ n q fun r=>cw r (r2 Q s0 (.pointer none) (.int .i64 2)) (D6z C Q s0 b)) s0
def G7e:=en1 21 f21xS
@[simp]def f22xS(C:cT)(Q:pT)(a:vT)(s0:St):Prop:=(nZ 66 fun b=>bO (A0r P 66 #[(0,(.int .i64 4)),(1,(.int .i64 4)),(2,(.int .i64 2)),(3,(.int .i64 3)),(5,a)]) fun c=>sw 66 b c fun s=>kEnd Q s0 (retV (A03 (A04 (tAgg P 66) b s) (some []))) s) s0
def G2b:=en1 22 f22xS
@[simp]def f23xS(C:cT)(Q:pT)(a b:vT)(s0:St):Prop:=(bZ 25 a fun c=>cw c (r1 Q s0 (.int .i64 1)) (bC .lss 3 b 0 fun d=>wJf d b fun e=>wCf d .gtr 3 e 1073741824 fun f=>bQ d f fun g=>cw g (r1 Q s0 (.int .i64 2)) (bN a fun h=>bF 83 8 h fun i=>bL 3 i fun j=>bV .lss 3 b j fun l=>cw l (r1 Q s0 (.int .i64 15)) (bN a fun m=>bF 83 8 m fun n=>sw 3 n b (r1 Q s0 (.int .i64 0)))))) s0
def G3h:=en2 23 f23xS
def E5o:Code:=cp 24 [2,1,0]
def C63:List Value:=a::b::un 3 (c::un 13 (d::e::f::un 50 []))
@[simp]def A8s(C:cT)(K:kT)(I:V6)(a b c d e f:vT):oT:=bA 3 f fun g=>I a b c d e g
@[simp]def A9j(C:cT)(K:kT)(I:V6)(a b c d e f:vT):oT:=bI 34 d f fun g=>bL 43 g fun h=>A3y (tMap P 117) c h (.bool true) fun _=>A8s C K I a b c d e f
@[simp]def G5s(C:cT)(K:kT)(I:V6)(a b c d e f:vT):oT:=bV .lss 3 f e fun g=>cw g (A9j C K I a b c d e f) (K (.exit 0) (ofL (C63 a b c d e f)))
def D4p:=lp6 h24 E5o 0 C63 G5s (cp 24 [2,1,0,0])
def E5q:Code:=cp 24 [3,1,0]
def C51:List Value:=a::b::un 3 (c::un 23 (d::e::f::un 40 []))
@[simp]def A8k(C:cT)(K:kT)(I:V6)(a b c d e f:vT):oT:=bA 3 f fun g=>I a b c d e g
@[simp]def A9i(C:cT)(K:kT)(I:V6)(a b c d e f:vT):oT:=bI 34 d f fun g=>bL 43 g fun h=>cf C 52 [a,h] fun i=>bE i 0 fun j=>bE i 1 fun _=>nZ 49 fun l=>sw 49 l j (bF 49 0 l fun m=>bL 3 m fun n=>bC .leq 3 n 3 fun o=>wJt o c fun p=>wJt o h fun q=>wt o (fun k s=>A1s (B0y (tMap P 117) p q false s) k s) fun r=>wOt o (unV .not r) fun t=>bP o t fun u=>cw u (cf C 53 [a,h] fun _=>A8k C K I a b c d e f) (A8k C K I a b c d e f))
@[simp]def G28(C:cT)(K:kT)(I:V6)(a b c d e f:vT):oT:=bV .lss 3 f e fun g=>cw g (A9i C K I a b c d e f) (K (.exit 2) (ofL (C51 a b c d e f)))
def D6u:=lp6 h24 E5q 2 C51 G28 (cp 24 [3,1,0,0])
def E68:Code:=cp 24 [5,1,0]
def C7e:List Value:=a::b::un 10 (c::un 42 (d::e::f::un 14 []))
@[simp]def A8o(C:cT)(K:kT)(I:V6)(a b c d e f:vT):oT:=bA 3 f fun g=>I a b c d e g
@[simp]def A89(C:cT)(K:kT)(I:V6)(a b c d e f:vT):oT:=bI 34 d f fun g=>bL 43 g fun h=>wJt b a fun i=>wJt b h fun j=>wt b (fun k s=>A0u P C (fv 54) [i,j] k s) fun l=>wCt b .eql 41 l 0 fun m=>bP b m fun n=>cw n (bA 3 c fun o=>A8o C K I a b o d e f) (A8o C K I a b c d e f)
@[simp]def G27(C:cT)(K:kT)(I:V6)(a b c d e f:vT):oT:=bV .lss 3 f e fun g=>cw g (A89 C K I a b c d e f) (K (.exit 4) (ofL (C7e a b c d e f)))
def D82:=lp6 h24 E68 4 C7e G27 (cp 24 [5,1,0,0])
@[simp]def A8y(C:cT)(Q:pT)(s0:St)(a:vT):oT:=r1 Q s0 a
def E8d:A0l:=A0h 4 (kSeq (evC P C h24 (cp 24 [6]) 0 (kB 24 Q s0)) (kB 24 Q s0))
@[simp]theorem F70:(E8d C Q s0) (.exit 4) (ofL (C7e a b c d e f)) s=A8y C Q s0 c s:=by kernel_rfl
@[simp]def A61:oT:=cf C 20 [a] fun c=>bH 34 c fun d=>evC P C h24 E68 4 (E8d C Q s0) (ofL (C7e a b (.int .i64 0) c d (.int .i64 0)))
@[simp]def B8k:oT:=A61 C Q s0 a b
def D8g:A0l:=A0h 2 (kSeq (evC P C h24 (cp 24 [4]) 0 (kB 24 Q s0)) (kB 24 Q s0))
@[simp]theorem F1r:(D8g C Q s0) (.exit 2) (ofL (C51 a b c d e f)) s=B8k C Q s0 a b s:=by kernel_rfl
@[simp]def A63:oT:=cf C 20 [a] fun d=>bH 34 d fun e=>evC P C h24 E5q 2 (D8g C Q s0) (ofL (C51 a b c d e (.int .i64 0)))
@[simp]def B9v:oT:=A63 C Q s0 a b c
def D6p:A0l:=A0h 0 (kSeq (evC P C h24 (cp 24 [3]) 0 (kB 24 Q s0)) (kB 24 Q s0))
@[simp]theorem F4x:(D6p C Q s0) (.exit 0) (ofL (C63 a b c d e f)) s=B9v C Q s0 a b c s:=by kernel_rfl
@[simp]def f24xS(C:cT)(Q:pT)(a b:vT)(s0:St):Prop:=(newW (mapN (A22 P 117) none) fun c=>cf C 13 [a] fun d=>cf C 28 [a,d] fun e=>bH 34 e fun f=>evC P C h24 E5o 0 (D6p C Q s0) (ofL (C63 a b c e f (.int .i64 0)))) s0
def G5z:=en2 24 f24xS
@[simp]def A1m(C:cT)(Q:pT)(s0:St)(a b:vT):oT:=bL 49 b fun c=>sw 49 a c fun s=>kEnd Q s0 (retV (A03 (A04 (tAgg P 49) a s) (some []))) s
@[simp]def f25xS(C:cT)(Q:pT)(a b:vT)(s0:St):Prop:=(nB b fun c=>nZ 49 fun d=>cf C 17 [a] fun e=>bV .add 43 e (.int .u64 1) fun f=>cf C 13 [a] fun g=>bO (A0r P 49 #[(1,f),(2,g)]) fun h=>nZ 49 fun i=>sw 49 i h (bF 60 0 c fun j=>bL 3 j fun l=>bC .eql 3 l 0 fun m=>cw m (oF 60 1 c fun n=>oL 46 n fun o=>oF 49 0 i fun p=>mw (mslN (A0e P 47) (.int .i64 32) (.int .i64 32)) (sw 3 p (.int .i64 1) (kL 46 n o (oF 49 3 i fun q=>sw 46 q o (oF 49 8 i fun r=>newW (mslN (A0e P 47) (.int .i64 32) (.int .i64 32)) fun t=>sw 47 r t (bF 49 8 i fun u=>bL 47 u fun v=>bF 49 1 i fun w=>bL 43 w fun x=>bR 43 5 x fun y=>bI 47 v (.int .i64 0) fun z=>sw 5 z y (A1m C Q s0 d i))))))) (bC .eql 3 l 1 fun A=>cw A (oF 60 1 c fun B=>oL 46 B fun D=>oF 60 2 c fun E=>oL 43 E fun F=>oF 49 0 i fun G=>cf C 13 [a] fun H=>kL 46 B D (kL 43 E F (cf C 27 [a,H] fun J=>kL 46 B D (kL 43 E F (cf C 55 [J,F] fun M=>kL 46 B D (sw 3 G (.int .i64 2) (kL 46 B D (oF 49 3 i fun N=>sw 46 N D (oF 49 4 i fun O=>sw 43 O M (A1m C Q s0 d i)))))))))) (bC .eql 3 l 2 fun R=>cw R (oF 60 1 c fun T=>oL 46 T fun U=>oF 60 2 c fun V=>oL 43 V fun W=>oF 49 0 i fun X=>mw (bslN (A0e P 47) 3 #[(0,(.int .u8 1)),(1,(.int .u8 1)),(2,(.int .u8 7))]) (cf C 13 [a] fun Y=>kL 46 T U (kL 43 V W (cf C 27 [a,Y] fun Z=>kL 46 T U (kL 43 V W (cf C 55 [Z,W] fun a0=>kL 46 T U (sw 3 X (.int .i64 3) (kL 46 T U (oF 49 3 i fun a1=>sw 46 a1 U (oF 49 4 i fun a2=>sw 43 a2 a0 (oF 49 8 i fun a3=>newW (bslN (A0e P 47) 3 #[(0,(.int .u8 1)),(1,(.int .u8 1)),(2,(.int .u8 7))]) fun a4=>sw 47 a3 a4 (A1m C Q s0 d i)))))))))))) (bC .eql 3 l 4 fun a5=>cw a5 (oF 60 1 c fun a6=>oF 46 0 a6 fun a7=>oL 3 a7 fun a8=>oF 60 1 c fun a9=>oF 46 1 a9 fun b0=>oL 3 b0 fun b1=>oF 60 2 c fun b2=>oL 43 b2 fun b3=>oF 49 0 i fun b4=>cf C 13 [a] fun b5=>kL 3 a7 a8 (kL 3 b0 b1 (kL 43 b2 b3 (cf C 28 [a,b5] fun b6=>kL 3 a7 a8 (kL 3 b0 b1 (kL 43 b2 b3 (cf C 55 [b6,b3] fun b7=>kL 3 a7 a8 (kL 3 b0 b1 (sw 3 b4 (.int .i64 4) (kL 3 a7 a8 (kL 3 b0 b1 (oF 49 3 i fun b8=>oF 46 0 b8 fun b9=>sw 3 b9 a8 (kL 3 b0 b1 (oF 49 3 i fun c0=>oF 46 1 c0 fun c1=>sw 3 c1 b1 (oF 49 4 i fun c2=>sw 43 c2 b7 (A1m C Q s0 d i)))))))))))))))) (bC .eql 3 l 5 fun c3=>cw c3 (oF 60 1 c fun c4=>oF 46 0 c4 fun c5=>oL 3 c5 fun c6=>oF 49 0 i fun c7=>sw 3 c7 (.int .i64 5) (kL 3 c5 c6 (oF 49 3 i fun c8=>oF 46 0 c8 fun c9=>sw 3 c9 c6 (A1m C Q s0 d i)))) (bC .eql 3 l 6 fun d0=>cw d0 (oF 49 1 i fun d1=>oL 43 d1 fun d2=>oF 60 4 c fun d3=>oL 3 d3 fun d4=>oF 60 4 c fun d5=>oL 3 d5 fun d6=>oF 60 3 c fun d7=>oL 43 d7 fun d8=>oV .rem 43 d8 (.int .u64 100) fun d9=>oR 43 3 d9 fun e0=>oF 49 0 i fun e1=>cf C 13 [a] fun e2=>kL 43 d1 d2 (kL 3 d3 d4 (kL 3 d5 d6 (kL 43 d7 d8 (kR 43 3 d9 e0 (oV .sub 3 e2 d4 fun e3=>oO (B3t max2 [e3,(.int .i64 0)]) fun e4=>cf C 13 [a] fun e5=>kL 43 d1 d2 (kL 3 d3 d4 (kL 3 d5 d6 (kL 43 d7 d8 (kR 43 3 d9 e0 (oV .add 3 e5 d6 fun e6=>cf C 13 [a] fun e7=>kL 43 d1 d2 (kL 3 d3 d4 (kL 3 d5 d6 (kL 43 d7 d8 (kR 43 3 d9 e0 (oV .add 3 e7 e0 fun e8=>sw 3 e1 (.int .i64 6) (kL 3 d3 d4 (kL 3 d5 d6 (kL 43 d7 d8 (kR 43 3 d9 e0 (oF 49 4 i fun e9=>sw 43 e9 d2 (kL 3 d3 d4 (kL 3 d5 d6 (kL 43 d7 d8 (kR 43 3 d9 e0 (oF 49 5 i fun f0=>sw 3 f0 e4 (kL 3 d5 d6 (kL 43 d7 d8 (kR 43 3 d9 e0 (oF 49 6 i fun f1=>sw 3 f1 e6 (kL 43 d7 d8 (kR 43 3 d9 e0 (oF 49 7 i fun f2=>sw 3 f2 e8 (A1m C Q s0 d i)))))))))))))))))))))))))))))))))) (bC .eql 3 l 7 fun f3=>cw f3 (oF 60 2 c fun f4=>oL 43 f4 fun f5=>oF 49 0 i fun f6=>cf C 20 [a] fun f7=>kL 43 f4 f5 (cf C 55 [f7,f5] fun f8=>sw 3 f6 (.int .i64 7) (oF 49 4 i fun f9=>sw 43 f9 f8 (A1m C Q s0 d i)))) (bC .eql 3 l 9 fun g0=>cw g0 (bF 49 0 i fun g1=>sw 3 g1 (.int .i64 8) (A1m C Q s0 d i)) (A1m C Q s0 d i)))))))))) s0
def G4t:=en2 25 f25xS
end
end Go.Zz
