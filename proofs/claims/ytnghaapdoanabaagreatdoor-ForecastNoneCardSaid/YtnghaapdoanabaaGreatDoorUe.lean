import Derived.Test.YtnghaapdoanabaaGreatDoorU0
set_option linter.all false
set_option maxRecDepth 20000
set_option linter.all false
namespace Go.Zz
open Go
noncomputable section
variable (C:cT)(K:kT)(Q:pT)(s0:St)(a b c d e f g h i j l m n o p q r t u v w x y z A B D E F G H J M N O R T U V W X Y Z a0 a1 a2 a3 a4 a5 a6 a7 a8 a9 b0 b1 b2 b3 b4 b5 b6 b7 b8 b9:vT)(s:St)
@[simp]def G4w(C:cT)(Q:pT)(a:vT)(s0:St):Prop:=(bZ 140 a fun b=>cw b (r1 Q s0 (.int .i64 0)) (bN a fun c=>bF 201 1 c fun d=>bL 3 d fun e=>r1 Q s0 e)) s0
def F31:=en1 154 G4w
def D60:Code:=cp 155 [1,1,0]
def B2p:List Value:=a::b::undef::undef::c::undef::undef::d::e::un 10 []
@[simp]def F4u(C:cT)(K:kT)(I:V5)(a b c d e:vT):oT:=bV .lss 3 e d fun f=>cw f (bI 132 a e fun g=>bL 95 g fun h=>A0u P C b [h] fun i=>cw i (K .ret (ofL (B2p a b e d e))) (bA 3 e fun j=>I a b c d j)) (K (.exit 0) (ofL (B2p a b c d e)))
def D0m:=lp5 h155 D60 0 B2p F4u (cp 155 [1,1,0,0])
def C3c:A0l:=A0h 0 (kSeq (evC P C h155 (cp 155 [2]) 0 (kB 155 Q s0)) (kB 155 Q s0))
@[simp]theorem E62:(C3c C Q s0) (.exit 0) (ofL (B2p a b c d e)) s=r1 Q s0 (.int .i64 (-1)) s:=by kernel_rfl
@[simp]theorem D91:(C3c C Q s0) .ret (ofL (B2p a b c d e)) s=r1 Q s0 c s:=by kernel_rfl
@[simp]def G46(C:cT)(Q:pT)(a b:vT)(s0:St):Prop:=(bH 132 a fun c=>evC P C h155 D60 0 (C3c C Q s0) (ofL (B2p a b (.int .i64 0) c (.int .i64 0)))) s0
def F4i:=en2 155 G46
@[simp]def G7t(C:cT)(Q:pT)(a b:vT)(s0:St):Prop:=(nB a fun c=>bF 95 0 c fun d=>bF 93 0 d fun e=>bL 43 e fun f=>bL 43 b fun g=>bV .eql 43 f g fun h=>r1 Q s0 h) s0
def E9d:=en2 156 G7t
def A3f:Code:=cp 157 [1,1,0,0]
def A29:Code:=cp 157 [1,1,1]
def A4d:Array Tmp:=#[7]
def A6m:List Value:=undef::undef::a::un 10 []
@[simp]def C32(C:cT)(Q:pT)(b:Nat)(L:List vT)(a c:vT):oT:=bL 34 a fun d=>newW (bslN (A0e P 34) 1 #[(0,c)]) fun e=>apdW P (A0e P 34) 34 d e fun f=>sw 34 a f fun s=>s.heap b=some (.loop L A4d A3f A29 .busy none)∧Q (.bool true) (s.put b (.loop L A4d A3f A29 .ready none))
@[simp]def D00(C:cT)(Q:pT)(b:Nat)(L:List vT)(a y0:vT):oT:=fun s=>s.heap b=some (.loop L A4d A3f A29 .ready none)∧C32 C Q b L a y0 (s.put b (.loop L A4d A3f A29 .busy none))
def B6w{a}:=rf1 h157 A3f A29 0 13 A4d (A6m a) (fun C Q b y=>D00 C Q b (A6m a) a y) rfl
def D55:A0l:=A0h 0 (kSeq (evC P C h157 (cp 157 [2]) 0 (kB 157 Q s0)) (kB 157 Q s0))
@[simp]theorem C21:(D55 C Q s0) .normal (ofL (A6m a)) s=(bL 34 a fun b=>r1 Q s0 b) s:=by kernel_rfl
@[simp]def H05(C:cT)(Q:pT)(a b:vT)(s0:St):Prop:=(nB a fun c=>rfW P C 13 (A6m c) A4d A3f A29 (evC P C h157 A3f 0) (evC P C h157 A29 0) (D55 C Q s0) b) s0
def F6a:=en2 157 H05
@[simp]def H0c(C:cT)(Q:pT)(a b:vT)(s0:St):Prop:=(nZ 49 fun c=>cf C 181 [a,b] fun d=>bE d 0 fun e=>bE d 1 fun f=>nZ 49 fun g=>sw 49 g e (oL 49 g fun h=>gLt f 49 g fun i=>wt f (fun k s=>A0u P C (fv 41) [i] k s) fun j=>kL 49 g h (oP f j fun l=>sw 49 c h fun s=>kEnd Q s0 (retV (A03 (A04 (tAgg P 49) c s) (A03 (some l) (some [])))) s))) s0
def F1w:=en2 158 H0c
def A3e:Code:=cp 159 [2,0,0]
def A27:Code:=cp 159 [2,1]
def A37:Array Tmp:=#[10, 11]
def A9r:List Value:=undef::undef::a::un 13 []
@[simp]def C4x(C:cT)(Q:pT)(b:Nat)(L:List vT)(a c:vT):oT:=bL 240 a fun d=>bL 204 c fun e=>A0u P C d [e] fun f=>bM f fun g=>cw g (fun s=>s.heap b=some (.loop L A37 A3e A27 .busy none)∧Q (.bool false) (s.put b (.loop L A37 A3e A27 .done (some .ret)))) (fun s=>s.heap b=some (.loop L A37 A3e A27 .busy none)∧Q (.bool true) (s.put b (.loop L A37 A3e A27 .ready none)))
@[simp]def C92(C:cT)(Q:pT)(b:Nat)(L:List vT)(a y0 y1:vT):oT:=nZ 204 fun c=>sw 204 c y0 fun s=>s.heap b=some (.loop L A37 A3e A27 .ready none)∧C4x C Q b L a c (s.put b (.loop L A37 A3e A27 .busy none))
def B6v{a}:=rf2 h159 A3e A27 0 16 A37 (A9r a) (fun C Q b y0 y1=>C92 C Q b (A9r a) a y0 y1) rfl
def D29(C:cT)(Q:pT)(s0:St):A0l:=A0h 0 (kB 159 Q s0)
@[simp]theorem C20:(D29 C Q s0) .normal (ofL (A9r a)) s=r0 Q s0 s:=by kernel_rfl
@[simp]def G1w(C:cT)(Q:pT)(a b:vT)(s0:St):Prop:=(nB a fun c=>bL 140 b fun d=>bO (A0r P 46 #[(0,(.int .i64 (-9223372036854775808))),(1,(.int .i64 (-9223372036854775808))),(2,(.int .i64 (-9223372036854775808)))]) fun e=>bO (A0r P 204 #[(0,e)]) fun f=>bO (A0r P 46 #[(0,(.int .i64 9223372036854775807)),(1,(.int .i64 9223372036854775807)),(2,(.int .i64 9223372036854775807))]) fun g=>bO (A0r P 204 #[(0,g),(1,(.int .u64 18446744073709551615))]) fun h=>cf C 160 [d,f,h] fun i=>rfW P C 16 (A9r c) A37 A3e A27 (evC P C h159 A3e 0) (evC P C h159 A27 0) (D29 C Q s0) i) s0
def E93:=en2 159 G1w
@[simp]def G54(C:cT)(Q:pT)(a b c:vT)(s0:St):Prop:=(nB a fun d=>nB b fun e=>nB c fun f=>bO (mkFn 182 #[] #[f,e,d]) fun g=>r1 Q s0 g) s0
def F09:=en3 160 G54
@[simp]def G2m(C:cT)(Q:pT)(a b:vT)(s0:St):Prop:=(nB b fun c=>nZ 204 fun d=>bL 204 c fun e=>cf C 150 [a,e] fun f=>bE f 0 fun g=>bE f 1 fun h=>bL 204 c fun i=>cf C 186 [g,i,(fv 185)] fun j=>bE j 0 fun l=>bE j 1 fun m=>bE j 2 fun n=>nZ 204 fun o=>sw 204 o l (wJf n h fun p=>wOf n (binV P .eql 199 p (.pointer none)) fun q=>bQ n q fun r=>cw r (bL 204 o fun t=>sw 204 d t fun s=>kEnd Q s0 (retV (A03 (A04 (tAgg P 204) d s) (A03 (some m) (A03 (some n) (some []))))) s) (cf C 187 [h] fun u=>bE u 0 fun v=>bE u 1 fun _=>nZ 204 fun w=>sw 204 w v (bL 204 w fun x=>cf C 150 [a,x] fun y=>bE y 0 fun z=>bE y 1 fun _=>bL 204 w fun A=>cf C 186 [z,A,(fv 185)] fun B=>bE B 0 fun D=>bE B 1 fun E=>bE B 2 fun F=>sw 204 d D fun s=>kEnd Q s0 (retV (A03 (A04 (tAgg P 204) d s) (A03 (some E) (A03 (some F) (some []))))) s)))) s0
def F2g:=en2 161 G2m
@[simp]def G5i(C:cT)(Q:pT)(a b c:vT)(s0:St):Prop:=(nB a fun d=>bL 76 d fun e=>cf C 78 [e,b,c] fun f=>bH 28 f fun g=>bC .eql 3 g 0 fun h=>cw h (r1 Q s0 (.int .i64 0)) (bH 28 f fun i=>bC .sub 3 i 1 fun j=>bI 28 f j fun l=>bL 3 l fun m=>r1 Q s0 m)) s0
def F1t:=en3 162 G5i
@[simp]def G1r(C:cT)(Q:pT)(a b:vT)(s0:St):Prop:=(cf C 155 [a,b] fun c=>bC .geq 3 c 0 fun d=>r1 Q s0 d) s0
def F0a:=en2 163 G1r
def A18:Code:=cp 164 [2,1,0,0]
def A17:Code:=cp 164 [2,1,1]
def A2n:Array Tmp:=#[11]
def A5t:List Value:=un 4 (a::b::undef::c::un 34 [])
@[simp]def B0u(C:cT)(Q:pT)(b:Nat)(L:List vT)(a c d e:vT):oT:=bL 3 a fun f=>bF 95 0 e fun g=>bF 93 1 g fun h=>bL 3 h fun i=>bV .geq 3 f i fun j=>wLt j 3 a fun m=>wFt j 95 0 e fun n=>wFt j 93 2 n fun o=>wLt j 3 o fun p=>wVt j .leq 3 m p fun q=>bP j q fun r=>wLt r 3 c fun t=>wFt r 95 2 e fun u=>wLt r 3 u fun v=>wVt r .geq 3 t v fun w=>bP r w fun x=>wLt x 3 c fun z=>wFt x 95 0 e fun A=>wFt x 93 3 A fun B=>wLt x 3 B fun D=>wVt x .lss 3 z D fun E=>bP x E fun F=>cw F (bL 132 d fun G=>bL 95 e fun H=>newW (bslN (A0e P 132) 1 #[(0,H)]) fun J=>apdW P (A0e P 132) 132 G J fun M=>sw 132 d M fun s=>s.heap b=some (.loop L A2n A18 A17 .busy none)∧Q (.bool true) (s.put b (.loop L A2n A18 A17 .ready none))) (fun s=>s.heap b=some (.loop L A2n A18 A17 .busy none)∧Q (.bool true) (s.put b (.loop L A2n A18 A17 .ready none)))
@[simp]def D0n(C:cT)(Q:pT)(b:Nat)(L:List vT)(a c d y0:vT):oT:=nZ 95 fun e=>sw 95 e y0 fun s=>s.heap b=some (.loop L A2n A18 A17 .ready none)∧B0u C Q b L a c d e (s.put b (.loop L A2n A18 A17 .busy none))
def B6a{a c d}:=rf1 h164 A18 A17 0 42 A2n (A5t a c d) (fun C Q b y=>D0n C Q b (A5t a c d) a c d y) rfl
def D8y:A0l:=A0h 0 (kSeq (evC P C h164 (cp 164 [3]) 0 (kB 164 Q s0)) (kB 164 Q s0))
@[simp]theorem C22:(D8y C Q s0) .normal (ofL (A5t a b c)) s=(bL 132 c fun d=>r1 Q s0 d) s:=by kernel_rfl
@[simp]def G7l(C:cT)(Q:pT)(a b c:vT)(s0:St):Prop:=(nB b fun d=>nB c fun e=>nZ 132 fun f=>cf C 31 [a] fun g=>rfW P C 42 (A5t d e f) A2n A18 A17 (evC P C h164 A18 0) (evC P C h164 A17 0) (D8y C Q s0) g) s0
def F3u:=en3 164 G7l
@[simp]def G7h(C:cT)(Q:pT)(a b:vT)(s0:St):Prop:=(nB a fun c=>bF 95 1 c fun d=>bL 43 d fun e=>bL 43 b fun f=>bV .gtr 43 e f fun g=>r1 Q s0 g) s0
def F0g:=en2 165 G7h
@[simp]def H0b(C:cT)(Q:pT)(a b:vT)(s0:St):Prop:=(bC .eql 3 b 0 fun c=>wJf c a fun d=>wJf c b fun e=>wf c (fun k s=>A0u P C (fv 63) [d,e] k s) fun f=>wOf c (unV .not f) fun g=>bQ c g fun h=>cw h (r3 Q s0 (.int .i64 0) (.int .u64 0) (.bool false)) (oN a fun i=>oF 130 0 i fun j=>oI 128 j b fun l=>oF 127 1 l fun m=>oL 3 m fun n=>oN a fun o=>oF 130 0 o fun p=>oI 128 p b fun q=>oF 127 2 q fun r=>oL 43 r fun t=>r3 Q s0 n t (.bool true))) s0
def F8e:=en2 166 H0b
@[simp]def G67(C:cT)(Q:pT)(a b c d:vT)(s0:St):Prop:=(oI 34 a c fun e=>oL 43 e fun f=>oI 34 a b fun g=>oL 43 g fun h=>cf C 108 [f,h] fun i=>cw i (bN d fun j=>bL 3 j fun l=>bA 3 l fun m=>bN d fun n=>sw 3 n m (r2 Q s0 c b)) (r2 Q s0 b c)) s0
def F60:=en4 167 G67
def D7n:Code:=cp 168 [1,0]
def B9i:List Value:=a::b::c::un 3 (d::un 42 [])
def D3q:Code:=cp 168 [1,0,1,0,1,0]
def C1a:List Value:=a::b::c::un 3 (d::e::un 41 [])
@[simp]def F52(C:cT)(K:kT)(I:V5)(a b c d e:vT):oT:=oV .gtr 3 e b fun f=>gJt f a fun g=>gJt f e fun h=>gIt f 28 g h fun i=>gLt f 3 i fun j=>gJt f a fun l=>gJt f e fun m=>gOt f (binV P .sub 3 m (.int .i64 1)) fun n=>gIt f 28 l n fun o=>gLt f 3 o fun p=>wt f (fun k s=>A0u P C (fv 174) [j,p] k s) fun q=>oP f q fun r=>cw r (oC .sub 3 e 1 fun t=>oC .sub 3 e 1 fun u=>oI 28 a u fun v=>oL 3 v fun w=>oI 28 a e fun x=>oL 3 x fun y=>oI 28 a e fun z=>sw 3 z w (oI 28 a t fun A=>sw 3 A y (bC .sub 3 e 1 fun B=>I a b c d B))) (K (.exit 2) (ofL (C1a a b c d e)))
def C9k:=lp5 h168 D3q 2 C1a F52 (cp 168 [1,0,1,0,1,0,0])
def D30(C:cT)(K:kT)(I:V4):A0l:=A0h 2 (A0h 1 (kSeq (evC P C h168 (cR (cR (cL (cL (cp 168 [1]))))) 0 (A5n h168 0 (fun l s=>I (l.getD 0 undef) (l.getD 1 undef) (l.getD 2 undef) (l.getD 6 undef) s) K)) (A5n h168 0 (fun l s=>I (l.getD 0 undef) (l.getD 1 undef) (l.getD 2 undef) (l.getD 6 undef) s) K)))
@[simp]theorem E8h(I:V4):(D30 C K I) (.exit 2) (ofL (C1a a c d e f)) s=(bA 3 e fun g=>I a c d g) s:=by kernel_rfl
@[simp]def F7v(C:cT)(K:kT)(I:V4)(a b c d:vT):oT:=bV .lss 3 d c fun e=>cw e (evC P C h168 D3q 2 (D30 C K I) (ofL (C1a a b c d d))) (K (.exit 0) (ofL (B9i a b c d)))
def C9j:=lp4 h168 D7n 0 B9i F7v (cp 168 [1,0,0])
def D7p(C:cT)(Q:pT)(s0:St):A0l:=A0h 0 (kB 168 Q s0)
@[simp]theorem E6d:(D7p C Q s0) (.exit 0) (ofL (B9i a b c d)) s=r0 Q s0 s:=by kernel_rfl
@[simp]def G70(C:cT)(Q:pT)(a b c:vT)(s0:St):Prop:=(bA 3 b fun d=>evC P C h168 D7n 0 (D7p C Q s0) (ofL (B9i a b c d))) s0
def F7g:=en3 168 G70
def D2h:Code:=cp 169 [3,1,0]
def B9k:List Value:=a::un 5 (b::c::d::e::un 46 [])
@[simp]def C0e(C:cT)(K:kT)(I:V5)(a b c d e:vT):oT:=bC .sub 3 e 1 fun f=>I a b c d f
@[simp]def C31(C:cT)(K:kT)(I:V5)(a b c d e:vT):oT:=cf C 188 [a,e,d,b] fun _=>C0e C K I a b c d e
@[simp]def F06(C:cT)(K:kT)(I:V5)(a b c d e:vT):oT:=bC .geq 3 e 0 fun f=>cw f (C31 C K I a b c d e) (K (.exit 0) (ofL (B9k a b c d e)))
def C8s:=lp5 h169 D2h 0 B9k F06 (cp 169 [3,1,0,0])
def D5q:Code:=cp 169 [5,0]
def B8g:List Value:=a::un 5 (b::c::undef::undef::d::un 45 [])
@[simp]def C3q(C:cT)(K:kT)(I:V4)(a b c d:vT):oT:=bC .sub 3 d 1 fun e=>I a b c e
@[simp]def C4z(C:cT)(K:kT)(I:V4)(a b c d:vT):oT:=oV .add 3 b d fun e=>oV .add 3 b d fun f=>oI 28 a f fun g=>oL 3 g fun h=>oI 28 a b fun i=>oL 3 i fun j=>oI 28 a b fun l=>sw 3 l h (oI 28 a e fun m=>sw 3 m j (cf C 188 [a,c,d,b] fun _=>C3q C K I a b c d))
@[simp]def F8b(C:cT)(K:kT)(I:V4)(a b c d:vT):oT:=bC .geq 3 d 0 fun e=>cw e (C4z C K I a b c d) (K (.exit 2) (ofL (B8g a b c d)))
def C8p:=lp4 h169 D5q 2 B8g F8b (cp 169 [5,0,0])
def D5c(C:cT)(Q:pT)(s0:St):A0l:=A0h 2 (kB 169 Q s0)
@[simp]theorem E7f:(D5c C Q s0) (.exit 2) (ofL (B8g a b c d)) s=r0 Q s0 s:=by kernel_rfl
@[simp]def C0u:oT:=bC .sub 3 d 1 fun e=>evC P C h169 D5q 2 (D5c C Q s0) (ofL (B8g a b c e))
def D69:A0l:=A0h 0 (kSeq (evC P C h169 (cp 169 [4]) 0 (kB 169 Q s0)) (kB 169 Q s0))
@[simp]theorem E7e:(D69 C Q s0) (.exit 0) (ofL (B9k a b c d e)) s=C0u C Q s0 a b c d s:=by kernel_rfl
@[simp]def G9l(C:cT)(Q:pT)(a b c:vT)(s0:St):Prop:=(bV .sub 3 c b fun d=>bC .sub 3 d 1 fun e=>bC .quo 3 e 2 fun f=>evC P C h169 D2h 0 (D69 C Q s0) (ofL (B9k a b (.int .i64 0) d f))) s0
def E9f:=en3 169 G9l
def D72:Code:=cp 170 [2,3,0]
def B9f:List Value:=a::b::un 4 (c::d::e::f::un 55 [])
@[simp]def B4s(C:cT)(K:kT)(I:V6)(a b c d e f:vT):oT:=bA 3 f fun g=>I a b c d e g
@[simp]def B0c(C:cT)(K:kT)(I:V6)(a b c d e f g:vT):oT:=oV .add 3 b g fun h=>oV .add 3 b g fun i=>oI 28 a i fun j=>oL 3 j fun l=>oI 28 a f fun m=>oL 3 m fun n=>oI 28 a f fun o=>sw 3 o l (oI 28 a h fun p=>sw 3 p n (B4s C K I a b c d e f))
@[simp]def B5p(C:cT)(K:kT)(I:V6)(a b c d e f:vT):oT:=cf C 144 [d] fun g=>bV .sub 138 e (.int .u64 1) fun h=>bV .and 138 g h fun i=>bR 138 3 i fun j=>bV .geq 3 j c fun l=>cw l (bV .sub 3 j c fun m=>B0c C K I a b c d e f m) (B0c C K I a b c d e f j)
@[simp]def F8i(C:cT)(K:kT)(I:V6)(a b c d e f:vT):oT:=bC .quo 3 c 4 fun g=>bC .mul 3 g 2 fun h=>bV .add 3 b h fun i=>bA 3 i fun j=>bV .leq 3 f j fun l=>cw l (B5p C K I a b c d e f) (K (.exit 0) (ofL (B9f a b c d e f)))
def D09:=lp6 h170 D72 0 B9f F8i (cp 170 [2,3,0,0])
def C3v(C:cT)(Q:pT)(s0:St):A0l:=A0h 0 (kB 170 Q s0)
@[simp]theorem E8k:(C3v C Q s0) (.exit 0) (ofL (B9f a b c d e f)) s=r0 Q s0 s:=by kernel_rfl
@[simp]def H0l(C:cT)(Q:pT)(a b c:vT)(s0:St):Prop:=(bV .sub 3 c b fun d=>bC .geq 3 d 8 fun e=>cw e (bR 3 220 d fun f=>nZ 220 fun g=>sw 220 g f (cf C 143 [d] fun h=>bC .quo 3 d 4 fun i=>bC .mul 3 i 2 fun j=>bV .add 3 b j fun l=>bC .sub 3 l 1 fun m=>evC P C h170 D72 0 (C3v C Q s0) (ofL (B9f a b d g h m)))) (r0 Q s0)) s0
def F7k:=en3 170 H0l
@[simp]def B0f(C:cT)(Q:pT)(s0:St)(a b:vT):oT:=bL 3 a fun c=>bC .eql 3 c 0 fun d=>cw d (r2 Q s0 b (.int .i64 1)) (bC .eql 3 c 12 fun e=>cw e (r2 Q s0 b (.int .i64 2)) (r2 Q s0 b (.int .i64 0)))
@[simp]def A87:oT:=cf C 190 [a,c,d,e,b] fun f=>B0f C Q s0 b f
@[simp]def G93(C:cT)(Q:pT)(a b c:vT)(s0:St):Prop:=(bV .sub 3 c b fun d=>nZ 3 fun e=>bC .quo 3 d 4 fun f=>bC .mul 3 f 1 fun g=>bV .add 3 b g fun h=>bC .quo 3 d 4 fun i=>bC .mul 3 i 2 fun j=>bV .add 3 b j fun l=>bC .quo 3 d 4 fun m=>bC .mul 3 m 3 fun n=>bV .add 3 b n fun o=>bC .geq 3 d 8 fun p=>cw p (bC .geq 3 d 50 fun q=>cw q (cf C 189 [a,h,e] fun r=>cf C 189 [a,l,e] fun t=>cf C 189 [a,o,e] fun u=>A87 C Q s0 a e r t u) (A87 C Q s0 a e h l o)) (B0f C Q s0 e l)) s0
def F55:=en3 171 G93
def D4g:Code:=cp 172 [2,0]
def C01:List Value:=a::un 5 (b::c::un 24 [])
@[simp]def F6m(C:cT)(K:kT)(I:V3)(a b c:vT):oT:=bV .lss 3 b c fun d=>cw d (oI 28 a c fun e=>oL 3 e fun f=>oI 28 a b fun g=>oL 3 g fun h=>oI 28 a b fun i=>sw 3 i f (oI 28 a c fun j=>sw 3 j h (bA 3 b fun l=>bC .sub 3 c 1 fun m=>I a l m))) (K (.exit 0) (ofL (C01 a b c)))
def C9x:=lp3 h172 D4g 0 C01 F6m (cp 172 [2,0,0])
def D4h(C:cT)(Q:pT)(s0:St):A0l:=A0h 0 (kB 172 Q s0)
@[simp]theorem E8o:(D4h C Q s0) (.exit 0) (ofL (C01 a b c)) s=r0 Q s0 s:=by kernel_rfl
@[simp]def G15(C:cT)(Q:pT)(a b c:vT)(s0:St):Prop:=(bC .sub 3 c 1 fun d=>evC P C h172 D4g 0 (D4h C Q s0) (ofL (C01 a b d))) s0
def E95:=en3 172 G15
def D4y:Code:=cp 173 [2,1,0]
def B0t:List Value:=a::b::c::un 3 (d::e::f::un 124 [])
def D3b:Code:=cp 173 [2,1,0,1,0,0,0,0]
def B8f:List Value:=a::b::c::un 4 (d::e::un 124 [])
@[simp]def A36(C:cT)(K:kT)(I:V5)(a b c d e:vT):oT:=bA 3 d fun f=>I a b c f e
@[simp]def F6n(C:cT)(K:kT)(I:V5)(a b c d e:vT):oT:=oV .lss 3 d c fun f=>gJt f a fun g=>gJt f d fun h=>gIt f 28 g h fun i=>gLt f 3 i fun j=>gJt f a fun l=>gJt f d fun m=>gOt f (binV P .sub 3 m (.int .i64 1)) fun n=>gIt f 28 l n fun o=>gLt f 3 o fun p=>wt f (fun k s=>A0u P C (fv 174) [j,p] k s) fun q=>gOt f (unV .not q) fun r=>oP f r fun t=>cw t (A36 C K I a b c d e) (K (.exit 2) (ofL (B8f a b c d e)))
def D16:=lp5 h173 D3b 2 B8f F6n (cp 173 [2,1,0,1,0,0,0,0,0])
def D2x:Code:=cp 173 [2,1,0,1,0,4,1,1,0]
def B4o:List Value:=a::b::c::un 4 (d::e::f::un 123 [])
@[simp]def A3w(C:cT)(K:kT)(I:V6)(a b c d e f:vT):oT:=bC .sub 3 f 1 fun g=>I a b c d e g
@[simp]def A4k(C:cT)(K:kT)(I:V6)(a b c d e f:vT):oT:=oC .sub 3 f 1 fun g=>oC .sub 3 f 1 fun h=>oI 28 a h fun i=>oL 3 i fun j=>oI 28 a f fun l=>oL 3 l fun m=>oI 28 a f fun n=>sw 3 n j (oI 28 a g fun o=>sw 3 o m (A3w C K I a b c d e f))
@[simp]def A4f(C:cT)(K:kT)(I:V6)(a b c d e f:vT):oT:=oI 28 a f fun g=>oL 3 g fun h=>oC .sub 3 f 1 fun i=>oI 28 a i fun j=>oL 3 j fun l=>cf C 174 [h,l] fun m=>oM m fun n=>cw n (K (.exit 4) (ofL (B4o a b c d e f))) (A4k C K I a b c d e f)
@[simp]def F5o(C:cT)(K:kT)(I:V6)(a b c d e f:vT):oT:=bC .geq 3 f 1 fun g=>cw g (A4f C K I a b c d e f) (K (.exit 4) (ofL (B4o a b c d e f)))
def C9l:=lp6 h173 D2x 4 B4o F5o (cp 173 [2,1,0,1,0,4,1,1,0,0])
def D2t:Code:=cp 173 [2,1,0,1,0,6,1,0]
def B4m:List Value:=a::b::c::un 4 (d::e::undef::f::un 122 [])
@[simp]def A3z(C:cT)(K:kT)(I:V6)(a b c d e f:vT):oT:=bA 3 f fun g=>I a b c d e g
@[simp]def A4b(C:cT)(K:kT)(I:V6)(a b c d e f:vT):oT:=oC .sub 3 f 1 fun g=>oC .sub 3 f 1 fun h=>oI 28 a h fun i=>oL 3 i fun j=>oI 28 a f fun l=>oL 3 l fun m=>oI 28 a f fun n=>sw 3 n j (oI 28 a g fun o=>sw 3 o m (A3z C K I a b c d e f))
@[simp]def A4h(C:cT)(K:kT)(I:V6)(a b c d e f:vT):oT:=oI 28 a f fun g=>oL 3 g fun h=>oC .sub 3 f 1 fun i=>oI 28 a i fun j=>oL 3 j fun l=>cf C 174 [h,l] fun m=>oM m fun n=>cw n (K (.exit 6) (ofL (B4m a b c d e f))) (A4b C K I a b c d e f)
@[simp]def F5u(C:cT)(K:kT)(I:V6)(a b c d e f:vT):oT:=bV .lss 3 f c fun g=>cw g (A4h C K I a b c d e f) (K (.exit 6) (ofL (B4m a b c d e f)))
def D0d:=lp6 h173 D2t 6 B4m F5u (cp 173 [2,1,0,1,0,6,1,0,0])
@[simp]def A3h(C:cT)(K:kT)(I:V6)(a b c d e f:vT):oT:=bA 3 f fun g=>I a b c d e g
def B1b(C:cT)(K:kT)(I:V6):A0l:=A0h 1 (kSeq (evC P C h173 (cR (cR (cL (cL (cR (cL (cp 173 [2]))))))) 0 (A5n h173 0 (fun l s=>I (l.getD 0 undef) (l.getD 1 undef) (l.getD 2 undef) (l.getD 6 undef) (l.getD 7 undef) (l.getD 8 undef) s) K)) (A5n h173 0 (fun l s=>I (l.getD 0 undef) (l.getD 1 undef) (l.getD 2 undef) (l.getD 6 undef) (l.getD 7 undef) (l.getD 8 undef) s) K))
def C57(C:cT)(K:kT)(I:V6):A0l:=A0h 6 (B1b C K I)
@[simp]theorem E69(I:V6):(C57 C K I) (.exit 6) (ofL (B4m a c d e f g)) s=A3h C K I a c d undef e f s:=by kernel_rfl
@[simp]def A12(C:cT)(K:kT)(I:V6)(a b c d e f:vT):oT:=bV .sub 3 c e fun g=>bC .geq 3 g 2 fun h=>cw h (bA 3 e fun i=>evC P C h173 D2t 6 (C57 C K I) (ofL (B4m a b c e f i))) (A3h C K I a b c d e f)
def C7q(C:cT)(K:kT)(I:V6):A0l:=A0h 4 (kSeq (evC P C h173 (cR (cR (cR (cR (cR (cL (cL (cR (cL (cL (cR (cL (cp 173 [2]))))))))))))) 1 (B1b C K I)) (B1b C K I))
@[simp]theorem E6k(I:V6):(C7q C K I) (.exit 4) (ofL (B4o a c d e f g)) s=A12 C K I a c d undef e f s:=by kernel_rfl
@[simp]def A2l(C:cT)(K:kT)(I:V6)(a b c d e f:vT):oT:=oC .sub 3 e 1 fun g=>oC .sub 3 e 1 fun h=>oI 28 a h fun i=>oL 3 i fun j=>oI 28 a e fun l=>oL 3 l fun m=>oI 28 a e fun n=>sw 3 n j (oI 28 a g fun o=>sw 3 o m (bV .sub 3 e b fun p=>bC .geq 3 p 2 fun q=>cw q (bC .sub 3 e 1 fun r=>evC P C h173 D2x 4 (C7q C K I) (ofL (B4o a b c e f r))) (A12 C K I a b c d e f)))
@[simp]def A2h(C:cT)(K:kT)(I:V6)(a b c d e f:vT):oT:=bV .sub 3 c b fun g=>bC .lss 3 g 50 fun h=>cw h (K .ret (ofL (B0t a b c (.bool false) e f))) (A2l C K I a b c d e f)
@[simp]def A2g(C:cT)(K:kT)(I:V6)(a b c d e f:vT):oT:=bV .eql 3 e c fun g=>cw g (K .ret (ofL (B0t a b c (.bool true) e f))) (A2h C K I a b c d e f)
def C7c(C:cT)(K:kT)(I:V6):A0l:=A0h 2 (kSeq (evC P C h173 (cR (cL (cL (cR (cL (cL (cR (cL (cp 173 [2]))))))))) 1 (B1b C K I)) (B1b C K I))
@[simp]theorem E5n(I:V6):(C7c C K I) (.exit 2) (ofL (B8f a c d e f)) s=A2g C K I a c d undef e f s:=by kernel_rfl
@[simp]def A2f(C:cT)(K:kT)(I:V6)(a b c d e:vT):oT:=evC P C h173 D3b 2 (C7c C K I) (ofL (B8f a b c d e))
@[simp]def F0z(C:cT)(K:kT)(I:V6)(a b c d e f:vT):oT:=bC .lss 3 f 5 fun g=>cw g (A2f C K I a b c e f) (K (.exit 0) (ofL (B0t a b c d e f)))
def D0s:=lp6 h173 D4y 0 B0t F0z (cp 173 [2,1,0,0])
@[simp]def A2i(C:cT)(Q:pT)(s0:St):oT:=r1 Q s0 (.bool false)
def B1t:A0l:=A0h 0 (kSeq (evC P C h173 (cp 173 [3]) 0 (kB 173 Q s0)) (kB 173 Q s0))
@[simp]theorem E5u:(B1t C Q s0) (.exit 0) (ofL (B0t a b c d e f)) s=A2i C Q s0 s:=by kernel_rfl
@[simp]theorem E0t:(B1t C Q s0) .ret (ofL (B0t a b c d e f)) s=r1 Q s0 d s:=by kernel_rfl
@[simp]def G18(C:cT)(Q:pT)(a b c:vT)(s0:St):Prop:=(bA 3 b fun d=>evC P C h173 D4y 0 (B1t C Q s0) (ofL (B0t a b c (.bool false) d (.int .i64 0)))) s0
def F7i:=en3 173 G18
@[simp]def G2f(C:cT)(Q:pT)(a b:vT)(s0:St):Prop:=(cf C 191 [a] fun c=>wJt c b fun d=>wt c (fun k s=>A0u P C (fv 191) [d] k s) fun e=>wOt c (unV .not e) fun f=>bP c f fun g=>wJf g a fun h=>wJf g b fun i=>wVf g .lss 3 h i fun j=>bQ g j fun l=>r1 Q s0 l) s0
def E9z:=en2 174 G2f
def D5w:Code:=cp 175 [3,0,0]
def B93:List Value:=a::b::un 7 (c::d::un 73 [])
def D5d:Code:=cp 175 [3,0,0,0,0,0,0]
def C0t:List Value:=a::b::un 7 (c::d::un 73 [])
@[simp]def F6u(C:cT)(K:kT)(I:V4)(a b c d:vT):oT:=oV .leq 3 c d fun e=>gJt e a fun f=>gJt e b fun g=>gIt e 28 f g fun h=>gLt e 3 h fun i=>gJt e a fun j=>gJt e c fun l=>gIt e 28 j l fun m=>gLt e 3 m fun n=>wt e (fun k s=>A0u P C (fv 174) [i,n] k s) fun o=>gOt e (unV .not o) fun p=>oP e p fun q=>cw q (bA 3 c fun r=>I a b r d) (K (.exit 2) (ofL (C0t a b c d)))
def C8c:=lp4 h175 D5d 2 C0t F6u (cp 175 [3,0,0,0,0,0,0,0])
def D8s:Code:=cp 175 [3,0,0,0,1,0,0]
def B83:List Value:=a::b::un 7 (c::d::un 73 [])
@[simp]def F4a(C:cT)(K:kT)(I:V4)(a b c d:vT):oT:=oV .leq 3 c d fun e=>gJt e a fun f=>gJt e b fun g=>gIt e 28 f g fun h=>gLt e 3 h fun i=>gJt e a fun j=>gJt e d fun l=>gIt e 28 j l fun m=>gLt e 3 m fun n=>wt e (fun k s=>A0u P C (fv 174) [i,n] k s) fun o=>oP e o fun p=>cw p (bC .sub 3 d 1 fun q=>I a b c q) (K (.exit 4) (ofL (B83 a b c d)))
def B7u:=lp4 h175 D8s 4 B83 F4a (cp 175 [3,0,0,0,1,0,0,0])
def C0a(C:cT)(K:kT)(I:V4):A0l:=A0h 1 (A5n h175 0 (fun l s=>I (l.getD 0 undef) (l.getD 1 undef) (l.getD 9 undef) (l.getD 10 undef) s) K)
def D34(C:cT)(K:kT)(I:V4):A0l:=A0h 4 (kSeq (evC P C h175 (cR (cR (cL (cL (cL (cL (cp 175 [3]))))))) 1 (C0a C K I)) (C0a C K I))
@[simp]theorem E7m(I:V4):(D34 C K I) (.exit 4) (ofL (B83 a c d e)) s=(bV .gtr 3 d e fun f=>cw f (K (.exit 0) (ofL (B93 a c d e))) (oI 28 a e fun g=>oL 3 g fun h=>oI 28 a d fun i=>oL 3 i fun j=>oI 28 a d fun m=>sw 3 m h (oI 28 a e fun n=>sw 3 n j (bA 3 d fun o=>bC .sub 3 e 1 fun p=>I a c o p)))) s:=by kernel_rfl
def C68(C:cT)(K:kT)(I:V4):A0l:=A0h 2 (kSeq (evC P C h175 (cR (cL (cL (cL (cL (cp 175 [3])))))) 1 (C0a C K I)) (C0a C K I))
@[simp]theorem E74(I:V4):(C68 C K I) (.exit 2) (ofL (C0t a c d e)) s=evC P C h175 D8s 4 (D34 C K I) (ofL (B83 a c d e)) s:=by kernel_rfl
@[simp]def F6b(C:cT)(K:kT)(I:V4)(a b c d:vT):oT:=evC P C h175 D5d 2 (C68 C K I) (ofL (C0t a b c d))
def D0x:=lp4 h175 D5w 0 B93 F6b (cp 175 [3,0,0,0])
def C5w:A0l:=A0h 0 (kSeq (evC P C h175 (cp 175 [4]) 0 (kB 175 Q s0)) (kB 175 Q s0))
@[simp]theorem E67:(C5w C Q s0) (.exit 0) (ofL (B93 a b c d)) s=r1 Q s0 c s:=by kernel_rfl
@[simp]def G33(C:cT)(Q:pT)(a b c d:vT)(s0:St):Prop:=(oI 28 a d fun e=>oL 3 e fun f=>oI 28 a b fun g=>oL 3 g fun h=>oI 28 a b fun i=>sw 3 i f (oI 28 a d fun j=>sw 3 j h (bA 3 b fun l=>bC .sub 3 c 1 fun m=>evC P C h175 D5w 0 (C5w C Q s0) (ofL (B93 a b l m))))) s0
def F76:=en4 175 G33
def D49:Code:=cp 176 [3,0,0]
def B8x:List Value:=a::b::un 8 (c::d::un 156 [])
@[simp]def C4i(C:cT)(K:kT)(I:V4)(a b c d:vT):oT:=bA 3 c fun e=>I a b e d
@[simp]def F2o(C:cT)(K:kT)(I:V4)(a b c d:vT):oT:=oV .leq 3 c d fun e=>gJt e a fun f=>gJt e c fun g=>gIt e 28 f g fun h=>gLt e 3 h fun i=>gJt e a fun j=>gJt e b fun l=>gIt e 28 j l fun m=>gLt e 3 m fun n=>wt e (fun k s=>A0u P C (fv 174) [i,n] k s) fun o=>oP e o fun p=>cw p (C4i C K I a b c d) (K (.exit 0) (ofL (B8x a b c d)))
def D0j:=lp4 h176 D49 0 B8x F2o (cp 176 [3,0,0,0])
def D61:Code:=cp 176 [4,0,0]
def C0f:List Value:=a::b::un 8 (c::d::un 156 [])
@[simp]def C30(C:cT)(K:kT)(I:V4)(a b c d:vT):oT:=bC .sub 3 d 1 fun e=>I a b c e
@[simp]def F7o(C:cT)(K:kT)(I:V4)(a b c d:vT):oT:=oV .leq 3 c d fun e=>gJt e a fun f=>gJt e d fun g=>gIt e 28 f g fun h=>gLt e 3 h fun i=>gJt e a fun j=>gJt e b fun l=>gIt e 28 j l fun m=>gLt e 3 m fun n=>wt e (fun k s=>A0u P C (fv 174) [i,n] k s) fun o=>gOt e (unV .not o) fun p=>oP e p fun q=>cw q (C30 C K I a b c d) (K (.exit 2) (ofL (C0f a b c d)))
def B7s:=lp4 h176 D61 2 C0f F7o (cp 176 [4,0,0,0])
def D6t:Code:=cp 176 [9,0,0]
def B8v:List Value:=a::b::un 8 (c::d::un 156 [])
def D2o:Code:=cp 176 [9,0,0,0,0,0,0]
def C04:List Value:=a::b::un 8 (c::d::un 156 [])
@[simp]def C5b(C:cT)(K:kT)(I:V4)(a b c d:vT):oT:=bA 3 c fun e=>I a b e d
@[simp]def F3v(C:cT)(K:kT)(I:V4)(a b c d:vT):oT:=oV .leq 3 c d fun e=>gJt e a fun f=>gJt e c fun g=>gIt e 28 f g fun h=>gLt e 3 h fun i=>gJt e a fun j=>gJt e b fun l=>gIt e 28 j l fun m=>gLt e 3 m fun n=>wt e (fun k s=>A0u P C (fv 174) [i,n] k s) fun o=>oP e o fun p=>cw p (C5b C K I a b c d) (K (.exit 6) (ofL (C04 a b c d)))
def C9h:=lp4 h176 D2o 6 C04 F3v (cp 176 [9,0,0,0,0,0,0,0])
def D3y:Code:=cp 176 [9,0,0,0,1,0,0]
def B9l:List Value:=a::b::un 8 (c::d::un 156 [])
@[simp]def C29(C:cT)(K:kT)(I:V4)(a b c d:vT):oT:=bC .sub 3 d 1 fun e=>I a b c e
@[simp]def F4z(C:cT)(K:kT)(I:V4)(a b c d:vT):oT:=oV .leq 3 c d fun e=>gJt e a fun f=>gJt e d fun g=>gIt e 28 f g fun h=>gLt e 3 h fun i=>gJt e a fun j=>gJt e b fun l=>gIt e 28 j l fun m=>gLt e 3 m fun n=>wt e (fun k s=>A0u P C (fv 174) [i,n] k s) fun o=>gOt e (unV .not o) fun p=>oP e p fun q=>cw q (C29 C K I a b c d) (K (.exit 8) (ofL (B9l a b c d)))
def B7h:=lp4 h176 D3y 8 B9l F4z (cp 176 [9,0,0,0,1,0,0,0])
@[simp]def C4d(C:cT)(K:kT)(I:V4)(a b c d:vT):oT:=oI 28 a d fun e=>oL 3 e fun f=>oI 28 a c fun g=>oL 3 g fun h=>oI 28 a c fun i=>sw 3 i f (oI 28 a d fun j=>sw 3 j h (bA 3 c fun l=>bC .sub 3 d 1 fun m=>I a b l m))
@[simp]def C3d(C:cT)(K:kT)(I:V4)(a b c d:vT):oT:=bV .gtr 3 c d fun e=>cw e (K (.exit 4) (ofL (B8v a b c d))) (C4d C K I a b c d)
def C0j(C:cT)(K:kT)(I:V4):A0l:=A0h 5 (A5n h176 4 (fun l s=>I (l.getD 0 undef) (l.getD 1 undef) (l.getD 10 undef) (l.getD 11 undef) s) K)
def D4f(C:cT)(K:kT)(I:V4):A0l:=A0h 8 (kSeq (evC P C h176 (cR (cR (cL (cL (cL (cL (cp 176 [9]))))))) 5 (C0j C K I)) (C0j C K I))
@[simp]theorem E6x(I:V4):(D4f C K I) (.exit 8) (ofL (B9l a c d e)) s=C3d C K I a c d e s:=by kernel_rfl
@[simp]def B91(C:cT)(K:kT)(I:V4)(a b c d:vT):oT:=evC P C h176 D3y 8 (D4f C K I) (ofL (B9l a b c d))
def C7t(C:cT)(K:kT)(I:V4):A0l:=A0h 6 (kSeq (evC P C h176 (cR (cL (cL (cL (cL (cp 176 [9])))))) 5 (C0j C K I)) (C0j C K I))
@[simp]theorem E7a(I:V4):(C7t C K I) (.exit 6) (ofL (C04 a c d e)) s=B91 C K I a c d e s:=by kernel_rfl
@[simp]def F77(C:cT)(K:kT)(I:V4)(a b c d:vT):oT:=evC P C h176 D2o 6 (C7t C K I) (ofL (C04 a b c d))
def C8e:=lp4 h176 D6t 4 B8v F77 (cp 176 [9,0,0,0])
@[simp]def B8t(C:cT)(Q:pT)(s0:St)(a b c:vT):oT:=oI 28 a b fun d=>oL 3 d fun e=>oI 28 a c fun f=>oL 3 f fun g=>oI 28 a c fun h=>sw 3 h e (oI 28 a b fun i=>sw 3 i g (r2 Q s0 c (.bool false)))
def C6f:A0l:=A0h 4 (kSeq (evC P C h176 (cp 176 [10]) 0 (kB 176 Q s0)) (kB 176 Q s0))
@[simp]theorem E7o:(C6f C Q s0) (.exit 4) (ofL (B8v a b c d)) s=B8t C Q s0 a b d s:=by kernel_rfl
@[simp]def B9w:oT:=oI 28 a d fun e=>oL 3 e fun f=>oI 28 a c fun g=>oL 3 g fun h=>oI 28 a c fun i=>sw 3 i f (oI 28 a d fun j=>sw 3 j h (bA 3 c fun l=>bC .sub 3 d 1 fun m=>evC P C h176 D6t 4 (C6f C Q s0) (ofL (B8v a b l m))))
@[simp]def B84:oT:=bV .gtr 3 c d fun e=>cw e (oI 28 a b fun f=>oL 3 f fun g=>oI 28 a d fun h=>oL 3 h fun i=>oI 28 a d fun j=>sw 3 j g (oI 28 a b fun l=>sw 3 l i (r2 Q s0 d (.bool true)))) (B9w C Q s0 a b c d)
def C7h:A0l:=A0h 2 (kSeq (evC P C h176 (cp 176 [5]) 0 (kB 176 Q s0)) (kB 176 Q s0))
@[simp]theorem E8z:(C7h C Q s0) (.exit 2) (ofL (C0f a b c d)) s=B84 C Q s0 a b c d s:=by kernel_rfl
@[simp]def B9q:oT:=evC P C h176 D61 2 (C7h C Q s0) (ofL (C0f a b c d))
def C7f:A0l:=A0h 0 (kSeq (evC P C h176 (cp 176 [4]) 0 (kB 176 Q s0)) (kB 176 Q s0))
@[simp]theorem E73:(C7f C Q s0) (.exit 0) (ofL (B8x a b c d)) s=B9q C Q s0 a b c d s:=by kernel_rfl
@[simp]def G4s(C:cT)(Q:pT)(a b c d:vT)(s0:St):Prop:=(oI 28 a d fun e=>oL 3 e fun f=>oI 28 a b fun g=>oL 3 g fun h=>oI 28 a b fun i=>sw 3 i f (oI 28 a d fun j=>sw 3 j h (bA 3 b fun l=>bC .sub 3 c 1 fun m=>evC P C h176 D49 0 (C7f C Q s0) (ofL (B8x a b l m))))) s0
def F3z:=en4 176 G4s
@[simp]def G7z(C:cT)(Q:pT)(a:vT)(s0:St):Prop:=(bV .neq 199 a (.pointer none) fun b=>wJt b a fun c=>wOt b (nilV c) fun d=>wFt b 233 2 d fun e=>wLt b 231 e fun f=>wHt b 231 f fun g=>wCt b .eql 3 g 0 fun h=>bP b h fun i=>r1 Q s0 i) s0
def F45:=en1 177 G7z
@[simp]def G84(C:cT)(Q:pT)(a b:vT)(s0:St):Prop:=(nB a fun c=>nB b fun d=>oF 204 0 c fun e=>oL 46 e fun f=>oF 204 0 d fun g=>oL 46 g fun h=>mw (B40 (A2r P 46)) (mw (B40 (A2r P 46)) (nZ 46 fun i=>nZ 46 fun j=>sw 46 i f (kL 46 g h (sw 46 j h (oF 46 0 i fun l=>oL 3 l fun m=>oF 46 0 j fun n=>oL 3 n fun o=>oF 46 1 i fun p=>oL 3 p fun q=>oF 46 1 j fun r=>oL 3 r fun t=>oF 46 2 i fun u=>oL 3 u fun v=>oF 46 2 j fun w=>oL 3 w fun x=>oF 204 1 c fun y=>oL 43 y fun z=>oF 204 1 d fun A=>oL 43 A fun B=>cf C 193 [m,o] fun D=>kL 3 p q (kL 3 r t (kL 3 u v (kL 3 w x (kL 43 y z (kL 43 A B (cf C 193 [q,t] fun E=>kL 3 u v (kL 3 w x (kL 43 y z (kL 43 A B (cf C 193 [v,x] fun F=>kL 43 y z (kL 43 A B (cf C 194 [z,B] fun G=>newW (bslN (A0e P 28) 4 #[(0,D),(1,E),(2,F),(3,G)]) fun H=>cf C 192 [H] fun J=>r1 Q s0 J)))))))))))))))))) s0
def E92:=en2 178 G84
@[simp]def H0o(C:cT)(Q:pT)(a:vT)(s0:St):Prop:=(nB a fun b=>bO (mkFn 195 #[] #[b]) fun c=>r1 Q s0 c) s0
def F0r:=en1 179 H0o
@[simp]def B58:oT:=cf C 196 [a] fun c=>bE c 0 fun d=>bE c 1 fun e=>bA 3 b fun f=>cf C 197 [d,b,f] fun g=>bA 3 b fun h=>cf C 198 [e,b,h] fun i=>bO (A0r P 233 #[(0,g),(1,i)]) fun j=>nB j fun l=>r2 Q s0 l (.bool true)
@[simp]def B0o:oT:=cf C 204 [a] fun b=>r2 Q s0 b (.bool true)
@[simp]def A8z:oT:=oS (fun s=>slcV P 231 b none (some a) none s) fun c=>oI 231 b a fun d=>oL 199 d fun e=>oA 3 a fun f=>oI 231 b f fun g=>oL 199 g fun h=>oC .add 3 a 2 fun i=>oS (fun s=>slcV P 231 b (some i) none none s) fun j=>cf C 203 [e,h] fun l=>ck (some true) (fun s=>(slcV P 231 b none (some a) none s)=some c) (ck (some true) (fun s=>(slcV P 231 b (some i) none none s)=some j) (newW (bslN (A0e P 286) 3 #[(0,c),(1,l),(2,j)]) fun m=>cf C 202 [m] fun n=>B0o C Q s0 n))
@[simp]def B55:oT:=bN a fun d=>bF 233 2 d fun e=>bL 231 e fun f=>cf C 200 [f] fun g=>bI 231 g b fun h=>sw 199 h c (cf C 201 [c] fun i=>bC .lss 3 i 2 fun j=>wJt j g fun l=>wHt j 231 l fun m=>wCt j .gtr 3 m 1 fun n=>bP j n fun o=>cw o (bH 231 g fun p=>bC .sub 3 p 1 fun q=>bV .eql 3 b q fun r=>cw r (bC .sub 3 b 1 fun t=>A8z C Q s0 t g) (A8z C Q s0 b g)) (B0o C Q s0 g))
@[simp]def B43:oT:=bL 204 b fun c=>cf C 199 [a,c] fun d=>oN a fun e=>oF 233 2 e fun f=>oL 231 f fun g=>oI 231 g d fun h=>oL 199 h fun i=>oL 204 b fun j=>cf C 180 [i,j] fun l=>oE l 0 fun m=>oE l 1 fun n=>bM n fun o=>cw o (r2 Q s0 a (.bool false)) (B55 C Q s0 a d m)
@[simp]def B4n:oT:=cf C 177 [a] fun c=>cw c (bL 204 b fun d=>cf C 151 [a,d] fun e=>bE e 0 fun f=>bE e 1 fun g=>bM g fun h=>cw h (r2 Q s0 a (.bool false)) (B58 C Q s0 a f)) (B43 C Q s0 a b)
@[simp]def G58(C:cT)(Q:pT)(a b:vT)(s0:St):Prop:=(nB b fun c=>bZ 199 a fun d=>cw d (r2 Q s0 (.pointer none) (.bool false)) (B4n C Q s0 a c)) s0
def C4m:=en2 180 G58
@[simp]def G6v(C:cT)(Q:pT)(a b:vT)(s0:St):Prop:=(nZ 49 fun c=>bV .eql 179 a .nilFunc fun d=>cw d (bO (A0r P 49 #[]) fun e=>sw 49 c e fun s=>kEnd Q s0 (retV (A03 (A04 (tAgg P 49) c s) (A03 (some (.bool false)) (some [])))) s) (A0u P C a [b] fun f=>bE f 0 fun g=>bE f 1 fun h=>nZ 49 fun i=>sw 49 i g (oL 49 i fun j=>gFt h 49 1 i fun l=>gLt h 43 l fun m=>gJt h b fun n=>gOt h (binV P .eql 43 m n) fun o=>oP h o fun p=>gLt p 49 i fun q=>wt p (fun k s=>A0u P C (fv 42) [q] k s) fun r=>kL 49 i j (oP p r fun t=>sw 49 c j fun s=>kEnd Q s0 (retV (A03 (A04 (tAgg P 49) c s) (A03 (some t) (some [])))) s)))) s0
def F5v:=en2 181 G6v
@[simp]def G4u(C:cT)(Q:pT)(a b c d:vT)(s0:St):Prop:=(nB a fun e=>nZ 263 fun f=>bO (mkFn 183 #[] #[b,c,e,f]) fun g=>sw 263 f g (bL 140 d fun h=>cf C 153 [h] fun i=>bV .neq 199 i (.pointer none) fun j=>cw j (bL 263 f fun l=>A0u P C l [i] fun _=>r0 Q s0) (r0 Q s0))) s0
def F5s:=en4 182 G4u
def D4x:Code:=cp 183 [1,1,1,0]
def B0z:List Value:=a::b::c::d::e::undef::f::un 5 (g::h::i::un 62 [])
@[simp]def C5c(C:cT)(K:kT)(I:V9)(a b c d e f g h i:vT):oT:=bA 3 i fun j=>I a b c d e f g h j
@[simp]def E9k(C:cT)(K:kT)(I:V9)(a b c d e f g h i:vT):oT:=bV .lss 3 i h fun j=>cw j (bI 230 g i fun l=>bL 204 l fun m=>nZ 204 fun n=>sw 204 n m (bL 204 b fun o=>bL 204 n fun p=>cf C 184 [o,p] fun q=>cw q (K (.exit 0) (ofL (B0z a b c d e f g h i))) (cf C 177 [a] fun r=>cw r (oL 204 n fun t=>oL 204 c fun u=>cf C 184 [t,u] fun v=>oM v fun w=>gLt w 262 d fun x=>gLt w 204 n fun y=>gJt w a fun z=>gOt w (nilV z) fun A=>gFt w 233 1 A fun B=>gLt w 34 B fun D=>gJt w i fun E=>gIt w 34 D E fun F=>gLt w 43 F fun G=>wt w (fun k s=>A0u P C x [y,G] k s) fun H=>gOt w (unV .not H) fun J=>oP w J fun M=>cw M (K .ret (ofL (B0z a b c d e (.bool false) g h i))) (C5c C K I a b c d e f g h i)) (oA 3 i fun N=>oN a fun O=>oF 233 0 O fun R=>oL 230 R fun T=>oH 230 T fun U=>oV .lss 3 N U fun V=>gLt V 204 c fun W=>gJt V a fun X=>gOt V (nilV X) fun Y=>gFt V 233 0 Y fun Z=>gLt V 230 Z fun a0=>gJt V i fun a1=>gOt V (binV P .add 3 a1 (.int .i64 1)) fun a2=>gIt V 230 a0 a2 fun a3=>gLt V 204 a3 fun a4=>wt V (fun k s=>A0u P C (fv 184) [W,a4] k s) fun a5=>gOt V (unV .not a5) fun a6=>oP V a6 fun a7=>cw a7 (C5c C K I a b c d e f g h i) (oL 263 e fun a8=>oN a fun a9=>oF 233 2 a9 fun b0=>oL 231 b0 fun b1=>oI 231 b1 i fun b2=>oL 199 b2 fun b3=>A0u P C a8 [b3] fun b4=>oM b4 fun b5=>cw b5 (K .ret (ofL (B0z a b c d e (.bool false) g h i))) (C5c C K I a b c d e f g h i)))))) (K (.exit 0) (ofL (B0z a b c d e f g h i)))
def B76:=lp9 h183 D4x 0 B0z E9k (cp 183 [1,1,1,0,0])
def D8w:A0l:=A0h 0 (kSeq (evC P C h183 (cR (cR (cL (cp 183 [1])))) 0 (kB 183 Q s0)) (kB 183 Q s0))
@[simp]theorem E6o:(D8w C Q s0) (.exit 0) (ofL (B0z a b c d e f g h i)) s=r1 Q s0 (.bool true) s:=by kernel_rfl
@[simp]def G4b(C:cT)(Q:pT)(a b c d e:vT)(s0:St):Prop:=(bN a fun f=>bF 233 0 f fun g=>bL 230 g fun h=>bH 230 h fun i=>evC P C h183 D4x 0 (D8w C Q s0) (ofL (B0z a b c d e (.bool false) h i (.int .i64 0)))) s0
def D42:=en5 183 G4b
@[simp]def G1s(C:cT)(Q:pT)(a b:vT)(s0:St):Prop:=(nB a fun c=>nB b fun d=>bL 204 c fun e=>bL 204 d fun f=>cf C 178 [e,f] fun g=>bC .lss 3 g 0 fun h=>r1 Q s0 h) s0
def F2p:=en2 184 G1s
@[simp]def G6c(C:cT)(Q:pT)(a b:vT)(s0:St):Prop:=(r1 Q s0 a) s0
def F8g:=en2 185 G6c
end
end Go.Zz
