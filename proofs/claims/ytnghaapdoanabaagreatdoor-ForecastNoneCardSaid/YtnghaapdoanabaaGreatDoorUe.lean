import Derived.Test.YtnghaapdoanabaaGreatDoorU0
set_option linter.all false
set_option maxRecDepth 20000
set_option linter.all false
namespace Go.Zz
open Go
noncomputable section
variable (C:cT)(K:kT)(Q:pT)(s0:St)(a b c d e f g h i j l m n o p q r t u v w x y z A B D E F G H J M N O R T U V W X Y Z a0 a1 a2 a3 a4 a5 a6 a7 a8 a9 b0 b1 b2 b3 b4 b5 b6 b7 b8 b9:vT)(s:St)
@[simp]def f154xS(C:cT)(Q:pT)(a:vT)(s0:St):Prop:=(bZ 140 a fun b=>cw b (r1 Q s0 (.int .i64 0)) (bN a fun c=>bF 201 1 c fun d=>bL 3 d fun e=>r1 Q s0 e)) s0
def f154xin:=en1 154 f154xS
def f155xl0:Code:=cp 155 [1,1,0]
def f155xF0:List Value:=a::b::undef::undef::c::undef::undef::d::e::un 10 []
@[simp]def f155xB0(C:cT)(K:kT)(I:V5)(a b c d e:vT):oT:=bV .lss 3 e d fun f=>cw f (bI 132 a e fun g=>bL 95 g fun h=>callF P C b [h] fun i=>cw i (K .ret (ofL (f155xF0 a b e d e))) (bA 3 e fun j=>I a b c d j)) (K (.exit 0) (ofL (f155xF0 a b c d e)))
def f155xloop0:=lp5 h155 f155xl0 0 f155xF0 f155xB0 (cp 155 [1,1,0,0])
def f155xK5:CPost:=kBlock 0 (kSeq (evC P C h155 (cp 155 [2]) 0 (kB 155 Q s0)) (kB 155 Q s0))
@[simp]theorem f155xE0x0xeq:(f155xK5 C Q s0) (.exit 0) (ofL (f155xF0 a b c d e)) s=r1 Q s0 (.int .i64 (-1)) s:=by kernel_rfl
@[simp]theorem f155xE0xret_eq:(f155xK5 C Q s0) .ret (ofL (f155xF0 a b c d e)) s=r1 Q s0 c s:=by kernel_rfl
@[simp]def f155xS(C:cT)(Q:pT)(a b:vT)(s0:St):Prop:=(bH 132 a fun c=>evC P C h155 f155xl0 0 (f155xK5 C Q s0) (ofL (f155xF0 a b (.int .i64 0) c (.int .i64 0)))) s0
def f155xin:=en2 155 f155xS
@[simp]def f156xS(C:cT)(Q:pT)(a b:vT)(s0:St):Prop:=(nB a fun c=>bF 95 0 c fun d=>bF 93 0 d fun e=>bL 43 e fun f=>bL 43 b fun g=>bV .eql 43 f g fun h=>r1 Q s0 h) s0
def f156xin:=en2 156 f156xS
def f157xrf0xas:Code:=cp 157 [1,1,0,0]
def f157xrf0xbd:Code:=cp 157 [1,1,1]
def f157xrf0xps:Array Tmp:=#[7]
def f157xrf0xL:List Value:=undef::undef::a::un 10 []
@[simp]def f157xrf0xRB(C:cT)(Q:pT)(b:Nat)(L:List vT)(a c:vT):oT:=bL 34 a fun d=>newW (bslN (tSlice P 34) 1 #[(0,c)]) fun e=>apdW P (tSlice P 34) 34 d e fun f=>sw 34 a f fun s=>s.heap b=some (.loop L f157xrf0xps f157xrf0xas f157xrf0xbd .busy none)∧Q (.bool true) (s.put b (.loop L f157xrf0xps f157xrf0xas f157xrf0xbd .ready none))
@[simp]def f157xrf0xR(C:cT)(Q:pT)(b:Nat)(L:List vT)(a y0:vT):oT:=fun s=>s.heap b=some (.loop L f157xrf0xps f157xrf0xas f157xrf0xbd .ready none)∧f157xrf0xRB C Q b L a y0 (s.put b (.loop L f157xrf0xps f157xrf0xas f157xrf0xbd .busy none))
def f157xrf0xrange{a}:=rf1 h157 f157xrf0xas f157xrf0xbd 0 13 f157xrf0xps (f157xrf0xL a) (fun C Q b y=>f157xrf0xR C Q b (f157xrf0xL a) a y) rfl
def f157xK3:CPost:=kBlock 0 (kSeq (evC P C h157 (cp 157 [2]) 0 (kB 157 Q s0)) (kB 157 Q s0))
@[simp]theorem f157xrf0xE_normal_eq:(f157xK3 C Q s0) .normal (ofL (f157xrf0xL a)) s=(bL 34 a fun b=>r1 Q s0 b) s:=by kernel_rfl
@[simp]def f157xS(C:cT)(Q:pT)(a b:vT)(s0:St):Prop:=(nB a fun c=>rfW P C 13 (f157xrf0xL c) f157xrf0xps f157xrf0xas f157xrf0xbd (evC P C h157 f157xrf0xas 0) (evC P C h157 f157xrf0xbd 0) (f157xK3 C Q s0) b) s0
def f157xin:=en2 157 f157xS
@[simp]def f158xS(C:cT)(Q:pT)(a b:vT)(s0:St):Prop:=(nZ 49 fun c=>cf C 181 [a,b] fun d=>bE d 0 fun e=>bE d 1 fun f=>nZ 49 fun g=>sw 49 g e (oL 49 g fun h=>gLt f 49 g fun i=>wt f (fun k s=>callF P C (fv 41) [i] k s) fun j=>kL 49 g h (oP f j fun l=>sw 49 c h fun s=>kEnd Q s0 (retV (consO (loadV (tAgg P 49) c s) (consO (some l) (some [])))) s))) s0
def f158xin:=en2 158 f158xS
def f159xrf0xas:Code:=cp 159 [2,0,0]
def f159xrf0xbd:Code:=cp 159 [2,1]
def f159xrf0xps:Array Tmp:=#[10, 11]
def f159xrf0xL:List Value:=undef::undef::a::un 13 []
@[simp]def f159xrf0xRB(C:cT)(Q:pT)(b:Nat)(L:List vT)(a c:vT):oT:=bL 240 a fun d=>bL 204 c fun e=>callF P C d [e] fun f=>bM f fun g=>cw g (fun s=>s.heap b=some (.loop L f159xrf0xps f159xrf0xas f159xrf0xbd .busy none)∧Q (.bool false) (s.put b (.loop L f159xrf0xps f159xrf0xas f159xrf0xbd .done (some .ret)))) (fun s=>s.heap b=some (.loop L f159xrf0xps f159xrf0xas f159xrf0xbd .busy none)∧Q (.bool true) (s.put b (.loop L f159xrf0xps f159xrf0xas f159xrf0xbd .ready none)))
@[simp]def f159xrf0xR(C:cT)(Q:pT)(b:Nat)(L:List vT)(a y0 y1:vT):oT:=nZ 204 fun c=>sw 204 c y0 fun s=>s.heap b=some (.loop L f159xrf0xps f159xrf0xas f159xrf0xbd .ready none)∧f159xrf0xRB C Q b L a c (s.put b (.loop L f159xrf0xps f159xrf0xas f159xrf0xbd .busy none))
def f159xrf0xrange{a}:=rf2 h159 f159xrf0xas f159xrf0xbd 0 16 f159xrf0xps (f159xrf0xL a) (fun C Q b y0 y1=>f159xrf0xR C Q b (f159xrf0xL a) a y0 y1) rfl
def f159xK1(C:cT)(Q:pT)(s0:St):CPost:=kBlock 0 (kB 159 Q s0)
@[simp]theorem f159xrf0xE_normal_eq:(f159xK1 C Q s0) .normal (ofL (f159xrf0xL a)) s=r0 Q s0 s:=by kernel_rfl
@[simp]def f159xS(C:cT)(Q:pT)(a b:vT)(s0:St):Prop:=(nB a fun c=>bL 140 b fun d=>bO (buildV P 46 #[(0,(.int .i64 (-9223372036854775808))),(1,(.int .i64 (-9223372036854775808))),(2,(.int .i64 (-9223372036854775808)))]) fun e=>bO (buildV P 204 #[(0,e)]) fun f=>bO (buildV P 46 #[(0,(.int .i64 9223372036854775807)),(1,(.int .i64 9223372036854775807)),(2,(.int .i64 9223372036854775807))]) fun g=>bO (buildV P 204 #[(0,g),(1,(.int .u64 18446744073709551615))]) fun h=>cf C 160 [d,f,h] fun i=>rfW P C 16 (f159xrf0xL c) f159xrf0xps f159xrf0xas f159xrf0xbd (evC P C h159 f159xrf0xas 0) (evC P C h159 f159xrf0xbd 0) (f159xK1 C Q s0) i) s0
def f159xin:=en2 159 f159xS
@[simp]def f160xS(C:cT)(Q:pT)(a b c:vT)(s0:St):Prop:=(nB a fun d=>nB b fun e=>nB c fun f=>bO (mkFn 182 #[] #[f,e,d]) fun g=>r1 Q s0 g) s0
def f160xin:=en3 160 f160xS
@[simp]def f161xS(C:cT)(Q:pT)(a b:vT)(s0:St):Prop:=(nB b fun c=>nZ 204 fun d=>bL 204 c fun e=>cf C 150 [a,e] fun f=>bE f 0 fun g=>bE f 1 fun h=>bL 204 c fun i=>cf C 186 [g,i,(fv 185)] fun j=>bE j 0 fun l=>bE j 1 fun m=>bE j 2 fun n=>nZ 204 fun o=>sw 204 o l (wJf n h fun p=>wOf n (binV P .eql 199 p (.pointer none)) fun q=>bQ n q fun r=>cw r (bL 204 o fun t=>sw 204 d t fun s=>kEnd Q s0 (retV (consO (loadV (tAgg P 204) d s) (consO (some m) (consO (some n) (some []))))) s) (cf C 187 [h] fun u=>bE u 0 fun v=>bE u 1 fun _=>nZ 204 fun w=>sw 204 w v (bL 204 w fun x=>cf C 150 [a,x] fun y=>bE y 0 fun z=>bE y 1 fun _=>bL 204 w fun A=>cf C 186 [z,A,(fv 185)] fun B=>bE B 0 fun D=>bE B 1 fun E=>bE B 2 fun F=>sw 204 d D fun s=>kEnd Q s0 (retV (consO (loadV (tAgg P 204) d s) (consO (some E) (consO (some F) (some []))))) s)))) s0
def f161xin:=en2 161 f161xS
@[simp]def f162xS(C:cT)(Q:pT)(a b c:vT)(s0:St):Prop:=(nB a fun d=>bL 76 d fun e=>cf C 78 [e,b,c] fun f=>bH 28 f fun g=>bC .eql 3 g 0 fun h=>cw h (r1 Q s0 (.int .i64 0)) (bH 28 f fun i=>bC .sub 3 i 1 fun j=>bI 28 f j fun l=>bL 3 l fun m=>r1 Q s0 m)) s0
def f162xin:=en3 162 f162xS
@[simp]def f163xS(C:cT)(Q:pT)(a b:vT)(s0:St):Prop:=(cf C 155 [a,b] fun c=>bC .geq 3 c 0 fun d=>r1 Q s0 d) s0
def f163xin:=en2 163 f163xS
def f164xrf0xas:Code:=cp 164 [2,1,0,0]
def f164xrf0xbd:Code:=cp 164 [2,1,1]
def f164xrf0xps:Array Tmp:=#[11]
def f164xrf0xL:List Value:=un 4 (a::b::undef::c::un 34 [])
@[simp]def f164xrf0xRB(C:cT)(Q:pT)(b:Nat)(L:List vT)(a c d e:vT):oT:=bL 3 a fun f=>bF 95 0 e fun g=>bF 93 1 g fun h=>bL 3 h fun i=>bV .geq 3 f i fun j=>wLt j 3 a fun m=>wFt j 95 0 e fun n=>wFt j 93 2 n fun o=>wLt j 3 o fun p=>wVt j .leq 3 m p fun q=>bP j q fun r=>wLt r 3 c fun t=>wFt r 95 2 e fun u=>wLt r 3 u fun v=>wVt r .geq 3 t v fun w=>bP r w fun x=>wLt x 3 c fun z=>wFt x 95 0 e fun A=>wFt x 93 3 A fun B=>wLt x 3 B fun D=>wVt x .lss 3 z D fun E=>bP x E fun F=>cw F (bL 132 d fun G=>bL 95 e fun H=>newW (bslN (tSlice P 132) 1 #[(0,H)]) fun J=>apdW P (tSlice P 132) 132 G J fun M=>sw 132 d M fun s=>s.heap b=some (.loop L f164xrf0xps f164xrf0xas f164xrf0xbd .busy none)∧Q (.bool true) (s.put b (.loop L f164xrf0xps f164xrf0xas f164xrf0xbd .ready none))) (fun s=>s.heap b=some (.loop L f164xrf0xps f164xrf0xas f164xrf0xbd .busy none)∧Q (.bool true) (s.put b (.loop L f164xrf0xps f164xrf0xas f164xrf0xbd .ready none)))
@[simp]def f164xrf0xR(C:cT)(Q:pT)(b:Nat)(L:List vT)(a c d y0:vT):oT:=nZ 95 fun e=>sw 95 e y0 fun s=>s.heap b=some (.loop L f164xrf0xps f164xrf0xas f164xrf0xbd .ready none)∧f164xrf0xRB C Q b L a c d e (s.put b (.loop L f164xrf0xps f164xrf0xas f164xrf0xbd .busy none))
def f164xrf0xrange{a c d}:=rf1 h164 f164xrf0xas f164xrf0xbd 0 42 f164xrf0xps (f164xrf0xL a c d) (fun C Q b y=>f164xrf0xR C Q b (f164xrf0xL a c d) a c d y) rfl
def f164xK3:CPost:=kBlock 0 (kSeq (evC P C h164 (cp 164 [3]) 0 (kB 164 Q s0)) (kB 164 Q s0))
@[simp]theorem f164xrf0xE_normal_eq:(f164xK3 C Q s0) .normal (ofL (f164xrf0xL a b c)) s=(bL 132 c fun d=>r1 Q s0 d) s:=by kernel_rfl
@[simp]def f164xS(C:cT)(Q:pT)(a b c:vT)(s0:St):Prop:=(nB b fun d=>nB c fun e=>nZ 132 fun f=>cf C 31 [a] fun g=>rfW P C 42 (f164xrf0xL d e f) f164xrf0xps f164xrf0xas f164xrf0xbd (evC P C h164 f164xrf0xas 0) (evC P C h164 f164xrf0xbd 0) (f164xK3 C Q s0) g) s0
def f164xin:=en3 164 f164xS
@[simp]def f165xS(C:cT)(Q:pT)(a b:vT)(s0:St):Prop:=(nB a fun c=>bF 95 1 c fun d=>bL 43 d fun e=>bL 43 b fun f=>bV .gtr 43 e f fun g=>r1 Q s0 g) s0
def f165xin:=en2 165 f165xS
@[simp]def f166xS(C:cT)(Q:pT)(a b:vT)(s0:St):Prop:=(bC .eql 3 b 0 fun c=>wJf c a fun d=>wJf c b fun e=>wf c (fun k s=>callF P C (fv 63) [d,e] k s) fun f=>wOf c (unV .not f) fun g=>bQ c g fun h=>cw h (r3 Q s0 (.int .i64 0) (.int .u64 0) (.bool false)) (oN a fun i=>oF 130 0 i fun j=>oI 128 j b fun l=>oF 127 1 l fun m=>oL 3 m fun n=>oN a fun o=>oF 130 0 o fun p=>oI 128 p b fun q=>oF 127 2 q fun r=>oL 43 r fun t=>r3 Q s0 n t (.bool true))) s0
def f166xin:=en2 166 f166xS
@[simp]def f167xS(C:cT)(Q:pT)(a b c d:vT)(s0:St):Prop:=(oI 34 a c fun e=>oL 43 e fun f=>oI 34 a b fun g=>oL 43 g fun h=>cf C 108 [f,h] fun i=>cw i (bN d fun j=>bL 3 j fun l=>bA 3 l fun m=>bN d fun n=>sw 3 n m (r2 Q s0 c b)) (r2 Q s0 b c)) s0
def f167xin:=en4 167 f167xS
def f168xl0:Code:=cp 168 [1,0]
def f168xF0:List Value:=a::b::c::un 3 (d::un 42 [])
def f168xl1:Code:=cp 168 [1,0,1,0,1,0]
def f168xF1:List Value:=a::b::c::un 3 (d::e::un 41 [])
@[simp]def f168xB1(C:cT)(K:kT)(I:V5)(a b c d e:vT):oT:=oV .gtr 3 e b fun f=>gJt f a fun g=>gJt f e fun h=>gIt f 28 g h fun i=>gLt f 3 i fun j=>gJt f a fun l=>gJt f e fun m=>gOt f (binV P .sub 3 m (.int .i64 1)) fun n=>gIt f 28 l n fun o=>gLt f 3 o fun p=>wt f (fun k s=>callF P C (fv 174) [j,p] k s) fun q=>oP f q fun r=>cw r (oC .sub 3 e 1 fun t=>oC .sub 3 e 1 fun u=>oI 28 a u fun v=>oL 3 v fun w=>oI 28 a e fun x=>oL 3 x fun y=>oI 28 a e fun z=>sw 3 z w (oI 28 a t fun A=>sw 3 A y (bC .sub 3 e 1 fun B=>I a b c d B))) (K (.exit 2) (ofL (f168xF1 a b c d e)))
def f168xloop1:=lp5 h168 f168xl1 2 f168xF1 f168xB1 (cp 168 [1,0,1,0,1,0,0])
def f168xK6(C:cT)(K:kT)(I:V4):CPost:=kBlock 2 (kBlock 1 (kSeq (evC P C h168 (cR (cR (cL (cL (cp 168 [1]))))) 0 (kLoop h168 0 (fun l s=>I (l.getD 0 undef) (l.getD 1 undef) (l.getD 2 undef) (l.getD 6 undef) s) K)) (kLoop h168 0 (fun l s=>I (l.getD 0 undef) (l.getD 1 undef) (l.getD 2 undef) (l.getD 6 undef) s) K)))
@[simp]theorem f168xE1x2xeq(I:V4):(f168xK6 C K I) (.exit 2) (ofL (f168xF1 a c d e f)) s=(bA 3 e fun g=>I a c d g) s:=by kernel_rfl
@[simp]def f168xB0(C:cT)(K:kT)(I:V4)(a b c d:vT):oT:=bV .lss 3 d c fun e=>cw e (evC P C h168 f168xl1 2 (f168xK6 C K I) (ofL (f168xF1 a b c d d))) (K (.exit 0) (ofL (f168xF0 a b c d)))
def f168xloop0:=lp4 h168 f168xl0 0 f168xF0 f168xB0 (cp 168 [1,0,0])
def f168xK8(C:cT)(Q:pT)(s0:St):CPost:=kBlock 0 (kB 168 Q s0)
@[simp]theorem f168xE0x0xeq:(f168xK8 C Q s0) (.exit 0) (ofL (f168xF0 a b c d)) s=r0 Q s0 s:=by kernel_rfl
@[simp]def f168xS(C:cT)(Q:pT)(a b c:vT)(s0:St):Prop:=(bA 3 b fun d=>evC P C h168 f168xl0 0 (f168xK8 C Q s0) (ofL (f168xF0 a b c d))) s0
def f168xin:=en3 168 f168xS
def f169xl0:Code:=cp 169 [3,1,0]
def f169xF0:List Value:=a::un 5 (b::c::d::e::un 46 [])
@[simp]def f169xJ1(C:cT)(K:kT)(I:V5)(a b c d e:vT):oT:=bC .sub 3 e 1 fun f=>I a b c d f
@[simp]def f169xJ2(C:cT)(K:kT)(I:V5)(a b c d e:vT):oT:=cf C 188 [a,e,d,b] fun _=>f169xJ1 C K I a b c d e
@[simp]def f169xB0(C:cT)(K:kT)(I:V5)(a b c d e:vT):oT:=bC .geq 3 e 0 fun f=>cw f (f169xJ2 C K I a b c d e) (K (.exit 0) (ofL (f169xF0 a b c d e)))
def f169xloop0:=lp5 h169 f169xl0 0 f169xF0 f169xB0 (cp 169 [3,1,0,0])
def f169xl1:Code:=cp 169 [5,0]
def f169xF1:List Value:=a::un 5 (b::c::undef::undef::d::un 45 [])
@[simp]def f169xJ3(C:cT)(K:kT)(I:V4)(a b c d:vT):oT:=bC .sub 3 d 1 fun e=>I a b c e
@[simp]def f169xJ4(C:cT)(K:kT)(I:V4)(a b c d:vT):oT:=oV .add 3 b d fun e=>oV .add 3 b d fun f=>oI 28 a f fun g=>oL 3 g fun h=>oI 28 a b fun i=>oL 3 i fun j=>oI 28 a b fun l=>sw 3 l h (oI 28 a e fun m=>sw 3 m j (cf C 188 [a,c,d,b] fun _=>f169xJ3 C K I a b c d))
@[simp]def f169xB1(C:cT)(K:kT)(I:V4)(a b c d:vT):oT:=bC .geq 3 d 0 fun e=>cw e (f169xJ4 C K I a b c d) (K (.exit 2) (ofL (f169xF1 a b c d)))
def f169xloop1:=lp4 h169 f169xl1 2 f169xF1 f169xB1 (cp 169 [5,0,0])
def f169xK5(C:cT)(Q:pT)(s0:St):CPost:=kBlock 2 (kB 169 Q s0)
@[simp]theorem f169xE1x2xeq:(f169xK5 C Q s0) (.exit 2) (ofL (f169xF1 a b c d)) s=r0 Q s0 s:=by kernel_rfl
@[simp]def f169xJ6:oT:=bC .sub 3 d 1 fun e=>evC P C h169 f169xl1 2 (f169xK5 C Q s0) (ofL (f169xF1 a b c e))
def f169xK8:CPost:=kBlock 0 (kSeq (evC P C h169 (cp 169 [4]) 0 (kB 169 Q s0)) (kB 169 Q s0))
@[simp]theorem f169xE0x0xeq:(f169xK8 C Q s0) (.exit 0) (ofL (f169xF0 a b c d e)) s=f169xJ6 C Q s0 a b c d s:=by kernel_rfl
@[simp]def f169xS(C:cT)(Q:pT)(a b c:vT)(s0:St):Prop:=(bV .sub 3 c b fun d=>bC .sub 3 d 1 fun e=>bC .quo 3 e 2 fun f=>evC P C h169 f169xl0 0 (f169xK8 C Q s0) (ofL (f169xF0 a b (.int .i64 0) d f))) s0
def f169xin:=en3 169 f169xS
def f170xl0:Code:=cp 170 [2,3,0]
def f170xF0:List Value:=a::b::un 4 (c::d::e::f::un 55 [])
@[simp]def f170xJ1(C:cT)(K:kT)(I:V6)(a b c d e f:vT):oT:=bA 3 f fun g=>I a b c d e g
@[simp]def f170xJ2(C:cT)(K:kT)(I:V6)(a b c d e f g:vT):oT:=oV .add 3 b g fun h=>oV .add 3 b g fun i=>oI 28 a i fun j=>oL 3 j fun l=>oI 28 a f fun m=>oL 3 m fun n=>oI 28 a f fun o=>sw 3 o l (oI 28 a h fun p=>sw 3 p n (f170xJ1 C K I a b c d e f))
@[simp]def f170xJ3(C:cT)(K:kT)(I:V6)(a b c d e f:vT):oT:=cf C 144 [d] fun g=>bV .sub 138 e (.int .u64 1) fun h=>bV .and 138 g h fun i=>bR 138 3 i fun j=>bV .geq 3 j c fun l=>cw l (bV .sub 3 j c fun m=>f170xJ2 C K I a b c d e f m) (f170xJ2 C K I a b c d e f j)
@[simp]def f170xB0(C:cT)(K:kT)(I:V6)(a b c d e f:vT):oT:=bC .quo 3 c 4 fun g=>bC .mul 3 g 2 fun h=>bV .add 3 b h fun i=>bA 3 i fun j=>bV .leq 3 f j fun l=>cw l (f170xJ3 C K I a b c d e f) (K (.exit 0) (ofL (f170xF0 a b c d e f)))
def f170xloop0:=lp6 h170 f170xl0 0 f170xF0 f170xB0 (cp 170 [2,3,0,0])
def f170xK4(C:cT)(Q:pT)(s0:St):CPost:=kBlock 0 (kB 170 Q s0)
@[simp]theorem f170xE0x0xeq:(f170xK4 C Q s0) (.exit 0) (ofL (f170xF0 a b c d e f)) s=r0 Q s0 s:=by kernel_rfl
@[simp]def f170xS(C:cT)(Q:pT)(a b c:vT)(s0:St):Prop:=(bV .sub 3 c b fun d=>bC .geq 3 d 8 fun e=>cw e (bR 3 220 d fun f=>nZ 220 fun g=>sw 220 g f (cf C 143 [d] fun h=>bC .quo 3 d 4 fun i=>bC .mul 3 i 2 fun j=>bV .add 3 b j fun l=>bC .sub 3 l 1 fun m=>evC P C h170 f170xl0 0 (f170xK4 C Q s0) (ofL (f170xF0 a b d g h m)))) (r0 Q s0)) s0
def f170xin:=en3 170 f170xS
@[simp]def f171xJ1(C:cT)(Q:pT)(s0:St)(a b:vT):oT:=bL 3 a fun c=>bC .eql 3 c 0 fun d=>cw d (r2 Q s0 b (.int .i64 1)) (bC .eql 3 c 12 fun e=>cw e (r2 Q s0 b (.int .i64 2)) (r2 Q s0 b (.int .i64 0)))
@[simp]def f171xJ2:oT:=cf C 190 [a,c,d,e,b] fun f=>f171xJ1 C Q s0 b f
@[simp]def f171xS(C:cT)(Q:pT)(a b c:vT)(s0:St):Prop:=(bV .sub 3 c b fun d=>nZ 3 fun e=>bC .quo 3 d 4 fun f=>bC .mul 3 f 1 fun g=>bV .add 3 b g fun h=>bC .quo 3 d 4 fun i=>bC .mul 3 i 2 fun j=>bV .add 3 b j fun l=>bC .quo 3 d 4 fun m=>bC .mul 3 m 3 fun n=>bV .add 3 b n fun o=>bC .geq 3 d 8 fun p=>cw p (bC .geq 3 d 50 fun q=>cw q (cf C 189 [a,h,e] fun r=>cf C 189 [a,l,e] fun t=>cf C 189 [a,o,e] fun u=>f171xJ2 C Q s0 a e r t u) (f171xJ2 C Q s0 a e h l o)) (f171xJ1 C Q s0 e l)) s0
def f171xin:=en3 171 f171xS
def f172xl0:Code:=cp 172 [2,0]
def f172xF0:List Value:=a::un 5 (b::c::un 24 [])
@[simp]def f172xB0(C:cT)(K:kT)(I:V3)(a b c:vT):oT:=bV .lss 3 b c fun d=>cw d (oI 28 a c fun e=>oL 3 e fun f=>oI 28 a b fun g=>oL 3 g fun h=>oI 28 a b fun i=>sw 3 i f (oI 28 a c fun j=>sw 3 j h (bA 3 b fun l=>bC .sub 3 c 1 fun m=>I a l m))) (K (.exit 0) (ofL (f172xF0 a b c)))
def f172xloop0:=lp3 h172 f172xl0 0 f172xF0 f172xB0 (cp 172 [2,0,0])
def f172xK2(C:cT)(Q:pT)(s0:St):CPost:=kBlock 0 (kB 172 Q s0)
@[simp]theorem f172xE0x0xeq:(f172xK2 C Q s0) (.exit 0) (ofL (f172xF0 a b c)) s=r0 Q s0 s:=by kernel_rfl
@[simp]def f172xS(C:cT)(Q:pT)(a b c:vT)(s0:St):Prop:=(bC .sub 3 c 1 fun d=>evC P C h172 f172xl0 0 (f172xK2 C Q s0) (ofL (f172xF0 a b d))) s0
def f172xin:=en3 172 f172xS
def f173xl0:Code:=cp 173 [2,1,0]
def f173xF0:List Value:=a::b::c::un 3 (d::e::f::un 124 [])
def f173xl1:Code:=cp 173 [2,1,0,1,0,0,0,0]
def f173xF1:List Value:=a::b::c::un 4 (d::e::un 124 [])
@[simp]def f173xJ1(C:cT)(K:kT)(I:V5)(a b c d e:vT):oT:=bA 3 d fun f=>I a b c f e
@[simp]def f173xB1(C:cT)(K:kT)(I:V5)(a b c d e:vT):oT:=oV .lss 3 d c fun f=>gJt f a fun g=>gJt f d fun h=>gIt f 28 g h fun i=>gLt f 3 i fun j=>gJt f a fun l=>gJt f d fun m=>gOt f (binV P .sub 3 m (.int .i64 1)) fun n=>gIt f 28 l n fun o=>gLt f 3 o fun p=>wt f (fun k s=>callF P C (fv 174) [j,p] k s) fun q=>gOt f (unV .not q) fun r=>oP f r fun t=>cw t (f173xJ1 C K I a b c d e) (K (.exit 2) (ofL (f173xF1 a b c d e)))
def f173xloop1:=lp5 h173 f173xl1 2 f173xF1 f173xB1 (cp 173 [2,1,0,1,0,0,0,0,0])
def f173xl2:Code:=cp 173 [2,1,0,1,0,4,1,1,0]
def f173xF2:List Value:=a::b::c::un 4 (d::e::f::un 123 [])
@[simp]def f173xJ2(C:cT)(K:kT)(I:V6)(a b c d e f:vT):oT:=bC .sub 3 f 1 fun g=>I a b c d e g
@[simp]def f173xJ3(C:cT)(K:kT)(I:V6)(a b c d e f:vT):oT:=oC .sub 3 f 1 fun g=>oC .sub 3 f 1 fun h=>oI 28 a h fun i=>oL 3 i fun j=>oI 28 a f fun l=>oL 3 l fun m=>oI 28 a f fun n=>sw 3 n j (oI 28 a g fun o=>sw 3 o m (f173xJ2 C K I a b c d e f))
@[simp]def f173xJ4(C:cT)(K:kT)(I:V6)(a b c d e f:vT):oT:=oI 28 a f fun g=>oL 3 g fun h=>oC .sub 3 f 1 fun i=>oI 28 a i fun j=>oL 3 j fun l=>cf C 174 [h,l] fun m=>oM m fun n=>cw n (K (.exit 4) (ofL (f173xF2 a b c d e f))) (f173xJ3 C K I a b c d e f)
@[simp]def f173xB2(C:cT)(K:kT)(I:V6)(a b c d e f:vT):oT:=bC .geq 3 f 1 fun g=>cw g (f173xJ4 C K I a b c d e f) (K (.exit 4) (ofL (f173xF2 a b c d e f)))
def f173xloop2:=lp6 h173 f173xl2 4 f173xF2 f173xB2 (cp 173 [2,1,0,1,0,4,1,1,0,0])
def f173xl3:Code:=cp 173 [2,1,0,1,0,6,1,0]
def f173xF3:List Value:=a::b::c::un 4 (d::e::undef::f::un 122 [])
@[simp]def f173xJ5(C:cT)(K:kT)(I:V6)(a b c d e f:vT):oT:=bA 3 f fun g=>I a b c d e g
@[simp]def f173xJ6(C:cT)(K:kT)(I:V6)(a b c d e f:vT):oT:=oC .sub 3 f 1 fun g=>oC .sub 3 f 1 fun h=>oI 28 a h fun i=>oL 3 i fun j=>oI 28 a f fun l=>oL 3 l fun m=>oI 28 a f fun n=>sw 3 n j (oI 28 a g fun o=>sw 3 o m (f173xJ5 C K I a b c d e f))
@[simp]def f173xJ7(C:cT)(K:kT)(I:V6)(a b c d e f:vT):oT:=oI 28 a f fun g=>oL 3 g fun h=>oC .sub 3 f 1 fun i=>oI 28 a i fun j=>oL 3 j fun l=>cf C 174 [h,l] fun m=>oM m fun n=>cw n (K (.exit 6) (ofL (f173xF3 a b c d e f))) (f173xJ6 C K I a b c d e f)
@[simp]def f173xB3(C:cT)(K:kT)(I:V6)(a b c d e f:vT):oT:=bV .lss 3 f c fun g=>cw g (f173xJ7 C K I a b c d e f) (K (.exit 6) (ofL (f173xF3 a b c d e f)))
def f173xloop3:=lp6 h173 f173xl3 6 f173xF3 f173xB3 (cp 173 [2,1,0,1,0,6,1,0,0])
@[simp]def f173xJ8(C:cT)(K:kT)(I:V6)(a b c d e f:vT):oT:=bA 3 f fun g=>I a b c d e g
def f173xK10(C:cT)(K:kT)(I:V6):CPost:=kBlock 1 (kSeq (evC P C h173 (cR (cR (cL (cL (cR (cL (cp 173 [2]))))))) 0 (kLoop h173 0 (fun l s=>I (l.getD 0 undef) (l.getD 1 undef) (l.getD 2 undef) (l.getD 6 undef) (l.getD 7 undef) (l.getD 8 undef) s) K)) (kLoop h173 0 (fun l s=>I (l.getD 0 undef) (l.getD 1 undef) (l.getD 2 undef) (l.getD 6 undef) (l.getD 7 undef) (l.getD 8 undef) s) K))
def f173xK11(C:cT)(K:kT)(I:V6):CPost:=kBlock 6 (f173xK10 C K I)
@[simp]theorem f173xE3x6xeq(I:V6):(f173xK11 C K I) (.exit 6) (ofL (f173xF3 a c d e f g)) s=f173xJ8 C K I a c d undef e f s:=by kernel_rfl
@[simp]def f173xJ12(C:cT)(K:kT)(I:V6)(a b c d e f:vT):oT:=bV .sub 3 c e fun g=>bC .geq 3 g 2 fun h=>cw h (bA 3 e fun i=>evC P C h173 f173xl3 6 (f173xK11 C K I) (ofL (f173xF3 a b c e f i))) (f173xJ8 C K I a b c d e f)
def f173xK14(C:cT)(K:kT)(I:V6):CPost:=kBlock 4 (kSeq (evC P C h173 (cR (cR (cR (cR (cR (cL (cL (cR (cL (cL (cR (cL (cp 173 [2]))))))))))))) 1 (f173xK10 C K I)) (f173xK10 C K I))
@[simp]theorem f173xE2x4xeq(I:V6):(f173xK14 C K I) (.exit 4) (ofL (f173xF2 a c d e f g)) s=f173xJ12 C K I a c d undef e f s:=by kernel_rfl
@[simp]def f173xJ15(C:cT)(K:kT)(I:V6)(a b c d e f:vT):oT:=oC .sub 3 e 1 fun g=>oC .sub 3 e 1 fun h=>oI 28 a h fun i=>oL 3 i fun j=>oI 28 a e fun l=>oL 3 l fun m=>oI 28 a e fun n=>sw 3 n j (oI 28 a g fun o=>sw 3 o m (bV .sub 3 e b fun p=>bC .geq 3 p 2 fun q=>cw q (bC .sub 3 e 1 fun r=>evC P C h173 f173xl2 4 (f173xK14 C K I) (ofL (f173xF2 a b c e f r))) (f173xJ12 C K I a b c d e f)))
@[simp]def f173xJ16(C:cT)(K:kT)(I:V6)(a b c d e f:vT):oT:=bV .sub 3 c b fun g=>bC .lss 3 g 50 fun h=>cw h (K .ret (ofL (f173xF0 a b c (.bool false) e f))) (f173xJ15 C K I a b c d e f)
@[simp]def f173xJ17(C:cT)(K:kT)(I:V6)(a b c d e f:vT):oT:=bV .eql 3 e c fun g=>cw g (K .ret (ofL (f173xF0 a b c (.bool true) e f))) (f173xJ16 C K I a b c d e f)
def f173xK19(C:cT)(K:kT)(I:V6):CPost:=kBlock 2 (kSeq (evC P C h173 (cR (cL (cL (cR (cL (cL (cR (cL (cp 173 [2]))))))))) 1 (f173xK10 C K I)) (f173xK10 C K I))
@[simp]theorem f173xE1x2xeq(I:V6):(f173xK19 C K I) (.exit 2) (ofL (f173xF1 a c d e f)) s=f173xJ17 C K I a c d undef e f s:=by kernel_rfl
@[simp]def f173xJ20(C:cT)(K:kT)(I:V6)(a b c d e:vT):oT:=evC P C h173 f173xl1 2 (f173xK19 C K I) (ofL (f173xF1 a b c d e))
@[simp]def f173xB0(C:cT)(K:kT)(I:V6)(a b c d e f:vT):oT:=bC .lss 3 f 5 fun g=>cw g (f173xJ20 C K I a b c e f) (K (.exit 0) (ofL (f173xF0 a b c d e f)))
def f173xloop0:=lp6 h173 f173xl0 0 f173xF0 f173xB0 (cp 173 [2,1,0,0])
@[simp]def f173xJ21(C:cT)(Q:pT)(s0:St):oT:=r1 Q s0 (.bool false)
def f173xK23:CPost:=kBlock 0 (kSeq (evC P C h173 (cp 173 [3]) 0 (kB 173 Q s0)) (kB 173 Q s0))
@[simp]theorem f173xE0x0xeq:(f173xK23 C Q s0) (.exit 0) (ofL (f173xF0 a b c d e f)) s=f173xJ21 C Q s0 s:=by kernel_rfl
@[simp]theorem f173xE0xret_eq:(f173xK23 C Q s0) .ret (ofL (f173xF0 a b c d e f)) s=r1 Q s0 d s:=by kernel_rfl
@[simp]def f173xS(C:cT)(Q:pT)(a b c:vT)(s0:St):Prop:=(bA 3 b fun d=>evC P C h173 f173xl0 0 (f173xK23 C Q s0) (ofL (f173xF0 a b c (.bool false) d (.int .i64 0)))) s0
def f173xin:=en3 173 f173xS
@[simp]def f174xS(C:cT)(Q:pT)(a b:vT)(s0:St):Prop:=(cf C 191 [a] fun c=>wJt c b fun d=>wt c (fun k s=>callF P C (fv 191) [d] k s) fun e=>wOt c (unV .not e) fun f=>bP c f fun g=>wJf g a fun h=>wJf g b fun i=>wVf g .lss 3 h i fun j=>bQ g j fun l=>r1 Q s0 l) s0
def f174xin:=en2 174 f174xS
def f175xl0:Code:=cp 175 [3,0,0]
def f175xF0:List Value:=a::b::un 7 (c::d::un 73 [])
def f175xl1:Code:=cp 175 [3,0,0,0,0,0,0]
def f175xF1:List Value:=a::b::un 7 (c::d::un 73 [])
@[simp]def f175xB1(C:cT)(K:kT)(I:V4)(a b c d:vT):oT:=oV .leq 3 c d fun e=>gJt e a fun f=>gJt e b fun g=>gIt e 28 f g fun h=>gLt e 3 h fun i=>gJt e a fun j=>gJt e c fun l=>gIt e 28 j l fun m=>gLt e 3 m fun n=>wt e (fun k s=>callF P C (fv 174) [i,n] k s) fun o=>gOt e (unV .not o) fun p=>oP e p fun q=>cw q (bA 3 c fun r=>I a b r d) (K (.exit 2) (ofL (f175xF1 a b c d)))
def f175xloop1:=lp4 h175 f175xl1 2 f175xF1 f175xB1 (cp 175 [3,0,0,0,0,0,0,0])
def f175xl2:Code:=cp 175 [3,0,0,0,1,0,0]
def f175xF2:List Value:=a::b::un 7 (c::d::un 73 [])
@[simp]def f175xB2(C:cT)(K:kT)(I:V4)(a b c d:vT):oT:=oV .leq 3 c d fun e=>gJt e a fun f=>gJt e b fun g=>gIt e 28 f g fun h=>gLt e 3 h fun i=>gJt e a fun j=>gJt e d fun l=>gIt e 28 j l fun m=>gLt e 3 m fun n=>wt e (fun k s=>callF P C (fv 174) [i,n] k s) fun o=>oP e o fun p=>cw p (bC .sub 3 d 1 fun q=>I a b c q) (K (.exit 4) (ofL (f175xF2 a b c d)))
def f175xloop2:=lp4 h175 f175xl2 4 f175xF2 f175xB2 (cp 175 [3,0,0,0,1,0,0,0])
def f175xK5(C:cT)(K:kT)(I:V4):CPost:=kBlock 1 (kLoop h175 0 (fun l s=>I (l.getD 0 undef) (l.getD 1 undef) (l.getD 9 undef) (l.getD 10 undef) s) K)
def f175xK7(C:cT)(K:kT)(I:V4):CPost:=kBlock 4 (kSeq (evC P C h175 (cR (cR (cL (cL (cL (cL (cp 175 [3]))))))) 1 (f175xK5 C K I)) (f175xK5 C K I))
@[simp]theorem f175xE2x4xeq(I:V4):(f175xK7 C K I) (.exit 4) (ofL (f175xF2 a c d e)) s=(bV .gtr 3 d e fun f=>cw f (K (.exit 0) (ofL (f175xF0 a c d e))) (oI 28 a e fun g=>oL 3 g fun h=>oI 28 a d fun i=>oL 3 i fun j=>oI 28 a d fun m=>sw 3 m h (oI 28 a e fun n=>sw 3 n j (bA 3 d fun o=>bC .sub 3 e 1 fun p=>I a c o p)))) s:=by kernel_rfl
def f175xK10(C:cT)(K:kT)(I:V4):CPost:=kBlock 2 (kSeq (evC P C h175 (cR (cL (cL (cL (cL (cp 175 [3])))))) 1 (f175xK5 C K I)) (f175xK5 C K I))
@[simp]theorem f175xE1x2xeq(I:V4):(f175xK10 C K I) (.exit 2) (ofL (f175xF1 a c d e)) s=evC P C h175 f175xl2 4 (f175xK7 C K I) (ofL (f175xF2 a c d e)) s:=by kernel_rfl
@[simp]def f175xB0(C:cT)(K:kT)(I:V4)(a b c d:vT):oT:=evC P C h175 f175xl1 2 (f175xK10 C K I) (ofL (f175xF1 a b c d))
def f175xloop0:=lp4 h175 f175xl0 0 f175xF0 f175xB0 (cp 175 [3,0,0,0])
def f175xK13:CPost:=kBlock 0 (kSeq (evC P C h175 (cp 175 [4]) 0 (kB 175 Q s0)) (kB 175 Q s0))
@[simp]theorem f175xE0x0xeq:(f175xK13 C Q s0) (.exit 0) (ofL (f175xF0 a b c d)) s=r1 Q s0 c s:=by kernel_rfl
@[simp]def f175xS(C:cT)(Q:pT)(a b c d:vT)(s0:St):Prop:=(oI 28 a d fun e=>oL 3 e fun f=>oI 28 a b fun g=>oL 3 g fun h=>oI 28 a b fun i=>sw 3 i f (oI 28 a d fun j=>sw 3 j h (bA 3 b fun l=>bC .sub 3 c 1 fun m=>evC P C h175 f175xl0 0 (f175xK13 C Q s0) (ofL (f175xF0 a b l m))))) s0
def f175xin:=en4 175 f175xS
def f176xl0:Code:=cp 176 [3,0,0]
def f176xF0:List Value:=a::b::un 8 (c::d::un 156 [])
@[simp]def f176xJ1(C:cT)(K:kT)(I:V4)(a b c d:vT):oT:=bA 3 c fun e=>I a b e d
@[simp]def f176xB0(C:cT)(K:kT)(I:V4)(a b c d:vT):oT:=oV .leq 3 c d fun e=>gJt e a fun f=>gJt e c fun g=>gIt e 28 f g fun h=>gLt e 3 h fun i=>gJt e a fun j=>gJt e b fun l=>gIt e 28 j l fun m=>gLt e 3 m fun n=>wt e (fun k s=>callF P C (fv 174) [i,n] k s) fun o=>oP e o fun p=>cw p (f176xJ1 C K I a b c d) (K (.exit 0) (ofL (f176xF0 a b c d)))
def f176xloop0:=lp4 h176 f176xl0 0 f176xF0 f176xB0 (cp 176 [3,0,0,0])
def f176xl1:Code:=cp 176 [4,0,0]
def f176xF1:List Value:=a::b::un 8 (c::d::un 156 [])
@[simp]def f176xJ2(C:cT)(K:kT)(I:V4)(a b c d:vT):oT:=bC .sub 3 d 1 fun e=>I a b c e
@[simp]def f176xB1(C:cT)(K:kT)(I:V4)(a b c d:vT):oT:=oV .leq 3 c d fun e=>gJt e a fun f=>gJt e d fun g=>gIt e 28 f g fun h=>gLt e 3 h fun i=>gJt e a fun j=>gJt e b fun l=>gIt e 28 j l fun m=>gLt e 3 m fun n=>wt e (fun k s=>callF P C (fv 174) [i,n] k s) fun o=>gOt e (unV .not o) fun p=>oP e p fun q=>cw q (f176xJ2 C K I a b c d) (K (.exit 2) (ofL (f176xF1 a b c d)))
def f176xloop1:=lp4 h176 f176xl1 2 f176xF1 f176xB1 (cp 176 [4,0,0,0])
def f176xl2:Code:=cp 176 [9,0,0]
def f176xF2:List Value:=a::b::un 8 (c::d::un 156 [])
def f176xl3:Code:=cp 176 [9,0,0,0,0,0,0]
def f176xF3:List Value:=a::b::un 8 (c::d::un 156 [])
@[simp]def f176xJ3(C:cT)(K:kT)(I:V4)(a b c d:vT):oT:=bA 3 c fun e=>I a b e d
@[simp]def f176xB3(C:cT)(K:kT)(I:V4)(a b c d:vT):oT:=oV .leq 3 c d fun e=>gJt e a fun f=>gJt e c fun g=>gIt e 28 f g fun h=>gLt e 3 h fun i=>gJt e a fun j=>gJt e b fun l=>gIt e 28 j l fun m=>gLt e 3 m fun n=>wt e (fun k s=>callF P C (fv 174) [i,n] k s) fun o=>oP e o fun p=>cw p (f176xJ3 C K I a b c d) (K (.exit 6) (ofL (f176xF3 a b c d)))
def f176xloop3:=lp4 h176 f176xl3 6 f176xF3 f176xB3 (cp 176 [9,0,0,0,0,0,0,0])
def f176xl4:Code:=cp 176 [9,0,0,0,1,0,0]
def f176xF4:List Value:=a::b::un 8 (c::d::un 156 [])
@[simp]def f176xJ4(C:cT)(K:kT)(I:V4)(a b c d:vT):oT:=bC .sub 3 d 1 fun e=>I a b c e
@[simp]def f176xB4(C:cT)(K:kT)(I:V4)(a b c d:vT):oT:=oV .leq 3 c d fun e=>gJt e a fun f=>gJt e d fun g=>gIt e 28 f g fun h=>gLt e 3 h fun i=>gJt e a fun j=>gJt e b fun l=>gIt e 28 j l fun m=>gLt e 3 m fun n=>wt e (fun k s=>callF P C (fv 174) [i,n] k s) fun o=>gOt e (unV .not o) fun p=>oP e p fun q=>cw q (f176xJ4 C K I a b c d) (K (.exit 8) (ofL (f176xF4 a b c d)))
def f176xloop4:=lp4 h176 f176xl4 8 f176xF4 f176xB4 (cp 176 [9,0,0,0,1,0,0,0])
@[simp]def f176xJ5(C:cT)(K:kT)(I:V4)(a b c d:vT):oT:=oI 28 a d fun e=>oL 3 e fun f=>oI 28 a c fun g=>oL 3 g fun h=>oI 28 a c fun i=>sw 3 i f (oI 28 a d fun j=>sw 3 j h (bA 3 c fun l=>bC .sub 3 d 1 fun m=>I a b l m))
@[simp]def f176xJ6(C:cT)(K:kT)(I:V4)(a b c d:vT):oT:=bV .gtr 3 c d fun e=>cw e (K (.exit 4) (ofL (f176xF2 a b c d))) (f176xJ5 C K I a b c d)
def f176xK7(C:cT)(K:kT)(I:V4):CPost:=kBlock 5 (kLoop h176 4 (fun l s=>I (l.getD 0 undef) (l.getD 1 undef) (l.getD 10 undef) (l.getD 11 undef) s) K)
def f176xK9(C:cT)(K:kT)(I:V4):CPost:=kBlock 8 (kSeq (evC P C h176 (cR (cR (cL (cL (cL (cL (cp 176 [9]))))))) 5 (f176xK7 C K I)) (f176xK7 C K I))
@[simp]theorem f176xE4x8xeq(I:V4):(f176xK9 C K I) (.exit 8) (ofL (f176xF4 a c d e)) s=f176xJ6 C K I a c d e s:=by kernel_rfl
@[simp]def f176xJ10(C:cT)(K:kT)(I:V4)(a b c d:vT):oT:=evC P C h176 f176xl4 8 (f176xK9 C K I) (ofL (f176xF4 a b c d))
def f176xK12(C:cT)(K:kT)(I:V4):CPost:=kBlock 6 (kSeq (evC P C h176 (cR (cL (cL (cL (cL (cp 176 [9])))))) 5 (f176xK7 C K I)) (f176xK7 C K I))
@[simp]theorem f176xE3x6xeq(I:V4):(f176xK12 C K I) (.exit 6) (ofL (f176xF3 a c d e)) s=f176xJ10 C K I a c d e s:=by kernel_rfl
@[simp]def f176xB2(C:cT)(K:kT)(I:V4)(a b c d:vT):oT:=evC P C h176 f176xl3 6 (f176xK12 C K I) (ofL (f176xF3 a b c d))
def f176xloop2:=lp4 h176 f176xl2 4 f176xF2 f176xB2 (cp 176 [9,0,0,0])
@[simp]def f176xJ13(C:cT)(Q:pT)(s0:St)(a b c:vT):oT:=oI 28 a b fun d=>oL 3 d fun e=>oI 28 a c fun f=>oL 3 f fun g=>oI 28 a c fun h=>sw 3 h e (oI 28 a b fun i=>sw 3 i g (r2 Q s0 c (.bool false)))
def f176xK15:CPost:=kBlock 4 (kSeq (evC P C h176 (cp 176 [10]) 0 (kB 176 Q s0)) (kB 176 Q s0))
@[simp]theorem f176xE2x4xeq:(f176xK15 C Q s0) (.exit 4) (ofL (f176xF2 a b c d)) s=f176xJ13 C Q s0 a b d s:=by kernel_rfl
@[simp]def f176xJ16:oT:=oI 28 a d fun e=>oL 3 e fun f=>oI 28 a c fun g=>oL 3 g fun h=>oI 28 a c fun i=>sw 3 i f (oI 28 a d fun j=>sw 3 j h (bA 3 c fun l=>bC .sub 3 d 1 fun m=>evC P C h176 f176xl2 4 (f176xK15 C Q s0) (ofL (f176xF2 a b l m))))
@[simp]def f176xJ17:oT:=bV .gtr 3 c d fun e=>cw e (oI 28 a b fun f=>oL 3 f fun g=>oI 28 a d fun h=>oL 3 h fun i=>oI 28 a d fun j=>sw 3 j g (oI 28 a b fun l=>sw 3 l i (r2 Q s0 d (.bool true)))) (f176xJ16 C Q s0 a b c d)
def f176xK19:CPost:=kBlock 2 (kSeq (evC P C h176 (cp 176 [5]) 0 (kB 176 Q s0)) (kB 176 Q s0))
@[simp]theorem f176xE1x2xeq:(f176xK19 C Q s0) (.exit 2) (ofL (f176xF1 a b c d)) s=f176xJ17 C Q s0 a b c d s:=by kernel_rfl
@[simp]def f176xJ20:oT:=evC P C h176 f176xl1 2 (f176xK19 C Q s0) (ofL (f176xF1 a b c d))
def f176xK22:CPost:=kBlock 0 (kSeq (evC P C h176 (cp 176 [4]) 0 (kB 176 Q s0)) (kB 176 Q s0))
@[simp]theorem f176xE0x0xeq:(f176xK22 C Q s0) (.exit 0) (ofL (f176xF0 a b c d)) s=f176xJ20 C Q s0 a b c d s:=by kernel_rfl
@[simp]def f176xS(C:cT)(Q:pT)(a b c d:vT)(s0:St):Prop:=(oI 28 a d fun e=>oL 3 e fun f=>oI 28 a b fun g=>oL 3 g fun h=>oI 28 a b fun i=>sw 3 i f (oI 28 a d fun j=>sw 3 j h (bA 3 b fun l=>bC .sub 3 c 1 fun m=>evC P C h176 f176xl0 0 (f176xK22 C Q s0) (ofL (f176xF0 a b l m))))) s0
def f176xin:=en4 176 f176xS
@[simp]def f177xS(C:cT)(Q:pT)(a:vT)(s0:St):Prop:=(bV .neq 199 a (.pointer none) fun b=>wJt b a fun c=>wOt b (nilV c) fun d=>wFt b 233 2 d fun e=>wLt b 231 e fun f=>wHt b 231 f fun g=>wCt b .eql 3 g 0 fun h=>bP b h fun i=>r1 Q s0 i) s0
def f177xin:=en1 177 f177xS
@[simp]def f178xS(C:cT)(Q:pT)(a b:vT)(s0:St):Prop:=(nB a fun c=>nB b fun d=>oF 204 0 c fun e=>oL 46 e fun f=>oF 204 0 d fun g=>oL 46 g fun h=>mw (zeroN (tZero P 46)) (mw (zeroN (tZero P 46)) (nZ 46 fun i=>nZ 46 fun j=>sw 46 i f (kL 46 g h (sw 46 j h (oF 46 0 i fun l=>oL 3 l fun m=>oF 46 0 j fun n=>oL 3 n fun o=>oF 46 1 i fun p=>oL 3 p fun q=>oF 46 1 j fun r=>oL 3 r fun t=>oF 46 2 i fun u=>oL 3 u fun v=>oF 46 2 j fun w=>oL 3 w fun x=>oF 204 1 c fun y=>oL 43 y fun z=>oF 204 1 d fun A=>oL 43 A fun B=>cf C 193 [m,o] fun D=>kL 3 p q (kL 3 r t (kL 3 u v (kL 3 w x (kL 43 y z (kL 43 A B (cf C 193 [q,t] fun E=>kL 3 u v (kL 3 w x (kL 43 y z (kL 43 A B (cf C 193 [v,x] fun F=>kL 43 y z (kL 43 A B (cf C 194 [z,B] fun G=>newW (bslN (tSlice P 28) 4 #[(0,D),(1,E),(2,F),(3,G)]) fun H=>cf C 192 [H] fun J=>r1 Q s0 J)))))))))))))))))) s0
def f178xin:=en2 178 f178xS
@[simp]def f179xS(C:cT)(Q:pT)(a:vT)(s0:St):Prop:=(nB a fun b=>bO (mkFn 195 #[] #[b]) fun c=>r1 Q s0 c) s0
def f179xin:=en1 179 f179xS
@[simp]def f180xJ1:oT:=cf C 196 [a] fun c=>bE c 0 fun d=>bE c 1 fun e=>bA 3 b fun f=>cf C 197 [d,b,f] fun g=>bA 3 b fun h=>cf C 198 [e,b,h] fun i=>bO (buildV P 233 #[(0,g),(1,i)]) fun j=>nB j fun l=>r2 Q s0 l (.bool true)
@[simp]def f180xJ2:oT:=cf C 204 [a] fun b=>r2 Q s0 b (.bool true)
@[simp]def f180xJ3:oT:=oS (fun s=>slcV P 231 b none (some a) none s) fun c=>oI 231 b a fun d=>oL 199 d fun e=>oA 3 a fun f=>oI 231 b f fun g=>oL 199 g fun h=>oC .add 3 a 2 fun i=>oS (fun s=>slcV P 231 b (some i) none none s) fun j=>cf C 203 [e,h] fun l=>ck (some true) (fun s=>(slcV P 231 b none (some a) none s)=some c) (ck (some true) (fun s=>(slcV P 231 b (some i) none none s)=some j) (newW (bslN (tSlice P 286) 3 #[(0,c),(1,l),(2,j)]) fun m=>cf C 202 [m] fun n=>f180xJ2 C Q s0 n))
@[simp]def f180xJ4:oT:=bN a fun d=>bF 233 2 d fun e=>bL 231 e fun f=>cf C 200 [f] fun g=>bI 231 g b fun h=>sw 199 h c (cf C 201 [c] fun i=>bC .lss 3 i 2 fun j=>wJt j g fun l=>wHt j 231 l fun m=>wCt j .gtr 3 m 1 fun n=>bP j n fun o=>cw o (bH 231 g fun p=>bC .sub 3 p 1 fun q=>bV .eql 3 b q fun r=>cw r (bC .sub 3 b 1 fun t=>f180xJ3 C Q s0 t g) (f180xJ3 C Q s0 b g)) (f180xJ2 C Q s0 g))
@[simp]def f180xJ5:oT:=bL 204 b fun c=>cf C 199 [a,c] fun d=>oN a fun e=>oF 233 2 e fun f=>oL 231 f fun g=>oI 231 g d fun h=>oL 199 h fun i=>oL 204 b fun j=>cf C 180 [i,j] fun l=>oE l 0 fun m=>oE l 1 fun n=>bM n fun o=>cw o (r2 Q s0 a (.bool false)) (f180xJ4 C Q s0 a d m)
@[simp]def f180xJ6:oT:=cf C 177 [a] fun c=>cw c (bL 204 b fun d=>cf C 151 [a,d] fun e=>bE e 0 fun f=>bE e 1 fun g=>bM g fun h=>cw h (r2 Q s0 a (.bool false)) (f180xJ1 C Q s0 a f)) (f180xJ5 C Q s0 a b)
@[simp]def f180xS(C:cT)(Q:pT)(a b:vT)(s0:St):Prop:=(nB b fun c=>bZ 199 a fun d=>cw d (r2 Q s0 (.pointer none) (.bool false)) (f180xJ6 C Q s0 a c)) s0
def f180xin:=en2 180 f180xS
@[simp]def f181xS(C:cT)(Q:pT)(a b:vT)(s0:St):Prop:=(nZ 49 fun c=>bV .eql 179 a .nilFunc fun d=>cw d (bO (buildV P 49 #[]) fun e=>sw 49 c e fun s=>kEnd Q s0 (retV (consO (loadV (tAgg P 49) c s) (consO (some (.bool false)) (some [])))) s) (callF P C a [b] fun f=>bE f 0 fun g=>bE f 1 fun h=>nZ 49 fun i=>sw 49 i g (oL 49 i fun j=>gFt h 49 1 i fun l=>gLt h 43 l fun m=>gJt h b fun n=>gOt h (binV P .eql 43 m n) fun o=>oP h o fun p=>gLt p 49 i fun q=>wt p (fun k s=>callF P C (fv 42) [q] k s) fun r=>kL 49 i j (oP p r fun t=>sw 49 c j fun s=>kEnd Q s0 (retV (consO (loadV (tAgg P 49) c s) (consO (some t) (some [])))) s)))) s0
def f181xin:=en2 181 f181xS
@[simp]def f182xS(C:cT)(Q:pT)(a b c d:vT)(s0:St):Prop:=(nB a fun e=>nZ 263 fun f=>bO (mkFn 183 #[] #[b,c,e,f]) fun g=>sw 263 f g (bL 140 d fun h=>cf C 153 [h] fun i=>bV .neq 199 i (.pointer none) fun j=>cw j (bL 263 f fun l=>callF P C l [i] fun _=>r0 Q s0) (r0 Q s0))) s0
def f182xin:=en4 182 f182xS
def f183xl0:Code:=cp 183 [1,1,1,0]
def f183xF0:List Value:=a::b::c::d::e::undef::f::un 5 (g::h::i::un 62 [])
@[simp]def f183xJ1(C:cT)(K:kT)(I:V9)(a b c d e f g h i:vT):oT:=bA 3 i fun j=>I a b c d e f g h j
@[simp]def f183xB0(C:cT)(K:kT)(I:V9)(a b c d e f g h i:vT):oT:=bV .lss 3 i h fun j=>cw j (bI 230 g i fun l=>bL 204 l fun m=>nZ 204 fun n=>sw 204 n m (bL 204 b fun o=>bL 204 n fun p=>cf C 184 [o,p] fun q=>cw q (K (.exit 0) (ofL (f183xF0 a b c d e f g h i))) (cf C 177 [a] fun r=>cw r (oL 204 n fun t=>oL 204 c fun u=>cf C 184 [t,u] fun v=>oM v fun w=>gLt w 262 d fun x=>gLt w 204 n fun y=>gJt w a fun z=>gOt w (nilV z) fun A=>gFt w 233 1 A fun B=>gLt w 34 B fun D=>gJt w i fun E=>gIt w 34 D E fun F=>gLt w 43 F fun G=>wt w (fun k s=>callF P C x [y,G] k s) fun H=>gOt w (unV .not H) fun J=>oP w J fun M=>cw M (K .ret (ofL (f183xF0 a b c d e (.bool false) g h i))) (f183xJ1 C K I a b c d e f g h i)) (oA 3 i fun N=>oN a fun O=>oF 233 0 O fun R=>oL 230 R fun T=>oH 230 T fun U=>oV .lss 3 N U fun V=>gLt V 204 c fun W=>gJt V a fun X=>gOt V (nilV X) fun Y=>gFt V 233 0 Y fun Z=>gLt V 230 Z fun a0=>gJt V i fun a1=>gOt V (binV P .add 3 a1 (.int .i64 1)) fun a2=>gIt V 230 a0 a2 fun a3=>gLt V 204 a3 fun a4=>wt V (fun k s=>callF P C (fv 184) [W,a4] k s) fun a5=>gOt V (unV .not a5) fun a6=>oP V a6 fun a7=>cw a7 (f183xJ1 C K I a b c d e f g h i) (oL 263 e fun a8=>oN a fun a9=>oF 233 2 a9 fun b0=>oL 231 b0 fun b1=>oI 231 b1 i fun b2=>oL 199 b2 fun b3=>callF P C a8 [b3] fun b4=>oM b4 fun b5=>cw b5 (K .ret (ofL (f183xF0 a b c d e (.bool false) g h i))) (f183xJ1 C K I a b c d e f g h i)))))) (K (.exit 0) (ofL (f183xF0 a b c d e f g h i)))
def f183xloop0:=lp9 h183 f183xl0 0 f183xF0 f183xB0 (cp 183 [1,1,1,0,0])
def f183xK5:CPost:=kBlock 0 (kSeq (evC P C h183 (cR (cR (cL (cp 183 [1])))) 0 (kB 183 Q s0)) (kB 183 Q s0))
@[simp]theorem f183xE0x0xeq:(f183xK5 C Q s0) (.exit 0) (ofL (f183xF0 a b c d e f g h i)) s=r1 Q s0 (.bool true) s:=by kernel_rfl
@[simp]def f183xS(C:cT)(Q:pT)(a b c d e:vT)(s0:St):Prop:=(bN a fun f=>bF 233 0 f fun g=>bL 230 g fun h=>bH 230 h fun i=>evC P C h183 f183xl0 0 (f183xK5 C Q s0) (ofL (f183xF0 a b c d e (.bool false) h i (.int .i64 0)))) s0
def f183xin:=en5 183 f183xS
@[simp]def f184xS(C:cT)(Q:pT)(a b:vT)(s0:St):Prop:=(nB a fun c=>nB b fun d=>bL 204 c fun e=>bL 204 d fun f=>cf C 178 [e,f] fun g=>bC .lss 3 g 0 fun h=>r1 Q s0 h) s0
def f184xin:=en2 184 f184xS
@[simp]def f185xS(C:cT)(Q:pT)(a b:vT)(s0:St):Prop:=(r1 Q s0 a) s0
def f185xin:=en2 185 f185xS
end
end Go.Zz
