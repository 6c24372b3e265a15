import Derived.Test.YtnghaapdoanabaaGreatDoorU0
set_option linter.all false
set_option maxRecDepth 20000
set_option linter.all false
namespace Go.Zz
open Go
noncomputable section
variable (C:cT)(K:kT)(Q:pT)(s0:St)(a b c d e f g h i j l m n o p q r t u v w x y z A B D E F G H J M N O R T U V W X Y Z a0 a1 a2 a3 a4 a5 a6 a7 a8 a9 b0 b1 b2 b3 b4 b5 b6 b7 b8 b9:vT)(s:St)
@[simp]def G2a(C:cT)(Q:pT)(a b c:vT)(s0:St):Prop:=(nB b fun d=>nZ 204 fun e=>bZ 199 a fun f=>cw f (bO (A0r P 204 #[]) fun g=>sw 204 e g fun s=>kEnd Q s0 (retV (A03 (A04 (tAgg P 204) e s) (A03 (some (.int .u64 0)) (A03 (some (.bool false)) (some []))))) s) (bL 204 d fun h=>cf C 151 [a,h] fun i=>bE i 0 fun j=>bE i 1 fun l=>A0u P C c [j,l] fun m=>bC .lss 3 m 0 fun n=>wJf n m fun o=>wJf n a fun p=>wOf n (nilV p) fun q=>wFf n 233 0 q fun r=>wLf n 230 r fun t=>wHf n 230 t fun u=>wVf n .geq 3 o u fun v=>bQ n v fun w=>cw w (bO (A0r P 204 #[]) fun x=>sw 204 e x fun s=>kEnd Q s0 (retV (A03 (A04 (tAgg P 204) e s) (A03 (some (.int .u64 0)) (A03 (some (.bool false)) (some []))))) s) (oN a fun y=>oF 233 0 y fun z=>oL 230 z fun A=>oI 230 A m fun B=>oL 204 B fun D=>oN a fun E=>oF 233 1 E fun F=>oL 34 F fun G=>oI 34 G m fun H=>oL 43 H fun J=>sw 204 e D (kL 34 F G (kL 43 H J fun s=>kEnd Q s0 (retV (A03 (A04 (tAgg P 204) e s) (A03 (some J) (A03 (some (.bool true)) (some []))))) s))))) s0
def D2k:=en3 186 G2a
@[simp]def G51(C:cT)(Q:pT)(a:vT)(s0:St):Prop:=(nZ 204 fun b=>bZ 199 a fun c=>wJf c a fun d=>wOf c (nilV d) fun e=>wFf c 233 0 e fun f=>wLf c 230 f fun g=>wHf c 230 g fun h=>wCf c .eql 3 h 0 fun i=>bQ c i fun j=>cw j (bO (A0r P 204 #[]) fun l=>sw 204 b l fun s=>kEnd Q s0 (retV (A03 (A04 (tAgg P 204) b s) (A03 (some (.bool false)) (some [])))) s) (bN a fun m=>bF 233 0 m fun n=>bL 230 n fun o=>bI 230 o (.int .i64 0) fun p=>bL 204 p fun q=>sw 204 b q fun s=>kEnd Q s0 (retV (A03 (A04 (tAgg P 204) b s) (A03 (some (.bool true)) (some [])))) s)) s0
def F3x:=en1 187 G51
def D20:Code:=cp 188 [1,0]
def B2t:List Value:=a::undef::b::c::un 4 (d::un 67 [])
@[simp]def B0r(C:cT)(K:kT)(I:V4)(a b c d e:vT):oT:=oV .add 3 c d fun f=>oV .add 3 c e fun g=>oV .add 3 c e fun h=>oI 28 a h fun i=>oL 3 i fun j=>oV .add 3 c d fun l=>oI 28 a l fun m=>oL 3 m fun n=>oI 28 a f fun o=>sw 3 o j (oI 28 a g fun p=>sw 3 p n (I a b c e))
@[simp]def A8j(C:cT)(K:kT)(I:V4)(a b c d e:vT):oT:=oV .add 3 c d fun f=>oI 28 a f fun g=>oL 3 g fun h=>oV .add 3 c e fun i=>oI 28 a i fun j=>oL 3 j fun l=>cf C 174 [h,l] fun m=>oM m fun n=>cw n (K .ret (ofL (B2t a b c d))) (B0r C K I a b c d e)
@[simp]def B0j(C:cT)(K:kT)(I:V4)(a b c d e:vT):oT:=oA 3 e fun f=>oV .lss 3 f b fun g=>gJt g a fun h=>gJt g c fun i=>gJt g e fun j=>gOt g (binV P .add 3 i j) fun l=>gIt g 28 h l fun m=>gLt g 3 m fun n=>gJt g a fun o=>gJt g c fun p=>gJt g e fun q=>gOt g (binV P .add 3 p q) fun r=>gOt g (binV P .add 3 r (.int .i64 1)) fun t=>gIt g 28 o t fun u=>gLt g 3 u fun v=>wt g (fun k s=>A0u P C (fv 174) [n,v] k s) fun w=>oP g w fun x=>cw x (bA 3 e fun y=>A8j C K I a b c d y) (A8j C K I a b c d e)
@[simp]def F4n(C:cT)(K:kT)(I:V4)(a b c d:vT):oT:=bV .mul 3 (.int .i64 2) d fun e=>bA 3 e fun f=>bV .geq 3 f b fun g=>cw g (K (.exit 0) (ofL (B2t a b c d))) (B0j C K I a b c d f)
def B7c:=lp4 h188 D20 0 B2t F4n (cp 188 [1,0,0])
def C00(C:cT)(Q:pT)(s0:St):A0l:=A0h 0 (kB 188 Q s0)
@[simp]theorem E5m:(C00 C Q s0) (.exit 0) (ofL (B2t a b c d)) s=r0 Q s0 s:=by kernel_rfl
@[simp]theorem E0l:(C00 C Q s0) .ret (ofL (B2t a b c d)) s=r0 Q s0 s:=by kernel_rfl
@[simp]def E66(C:cT)(Q:pT)(a b c d:vT)(s0:St):Prop:=(fun s0=>evC P C h188 D20 0 (C00 C Q s0) (ofL (B2t a c d b)) s0) s0
def D2d:=en4 188 E66
@[simp]def H02(C:cT)(Q:pT)(a b c:vT)(s0:St):Prop:=(bC .sub 3 b 1 fun d=>bA 3 b fun e=>cf C 190 [a,d,b,e,c] fun f=>r1 Q s0 f) s0
def F3j:=en3 189 H02
@[simp]def G2g(C:cT)(Q:pT)(a b c d e:vT)(s0:St):Prop:=(cf C 205 [a,b,c,e] fun f=>bE f 0 fun g=>bE f 1 fun h=>cf C 205 [a,h,d,e] fun i=>bE i 0 fun j=>bE i 1 fun _=>cf C 205 [a,g,j,e] fun l=>bE l 0 fun _=>bE l 1 fun m=>r1 Q s0 m) s0
def F13:=en5 190 G2g
@[simp]def G2t(C:cT)(Q:pT)(a:vT)(s0:St):Prop:=(bV .neq 3 a a fun b=>r1 Q s0 b) s0
def F3r:=en1 191 G2t
def D52:Code:=cp 192 [2,1,0]
def B22:List Value:=undef::undef::a::b::undef::undef::c::d::e::un 9 []
@[simp]def F2s(C:cT)(K:kT)(I:V5)(a b c d e:vT):oT:=bV .lss 3 e d fun f=>cw f (bI 28 c e fun g=>bL 3 g fun h=>bV .neq 3 h b fun i=>cw i (K .ret (ofL (B22 h b c d e))) (bA 3 e fun j=>I a b c d j)) (K (.exit 0) (ofL (B22 a b c d e)))
def D08:=lp5 h192 D52 0 B22 F2s (cp 192 [2,1,0,0])
def C4y:A0l:=A0h 0 (kSeq (evC P C h192 (cp 192 [3]) 0 (kB 192 Q s0)) (kB 192 Q s0))
@[simp]theorem E84:(C4y C Q s0) (.exit 0) (ofL (B22 a b c d e)) s=r1 Q s0 b s:=by kernel_rfl
@[simp]theorem D94:(C4y C Q s0) .ret (ofL (B22 a b c d e)) s=r1 Q s0 a s:=by kernel_rfl
@[simp]def G7b(C:cT)(Q:pT)(a:vT)(s0:St):Prop:=(bH 28 a fun b=>evC P C h192 D52 0 (C4y C Q s0) (ofL (B22 (.int .i64 0) (.int .i64 0) a b (.int .i64 0)))) s0
def F0x:=en1 192 G7b
@[simp]def G8t(C:cT)(Q:pT)(a b:vT)(s0:St):Prop:=(cf C 191 [a] fun c=>cf C 191 [b] fun d=>cw c (cw d (r1 Q s0 (.int .i64 0)) (r1 Q s0 (.int .i64 (-1)))) (cw d (r1 Q s0 (.int .i64 1)) (bV .lss 3 a b fun e=>cw e (r1 Q s0 (.int .i64 (-1))) (bV .gtr 3 a b fun f=>cw f (r1 Q s0 (.int .i64 1)) (r1 Q s0 (.int .i64 0)))))) s0
def F3q:=en2 193 G8t
@[simp]def G68(C:cT)(Q:pT)(a b:vT)(s0:St):Prop:=(cf C 147 [a] fun c=>cf C 147 [b] fun d=>cw c (cw d (r1 Q s0 (.int .i64 0)) (r1 Q s0 (.int .i64 (-1)))) (cw d (r1 Q s0 (.int .i64 1)) (bV .lss 43 a b fun e=>cw e (r1 Q s0 (.int .i64 (-1))) (bV .gtr 43 a b fun f=>cw f (r1 Q s0 (.int .i64 1)) (r1 Q s0 (.int .i64 0)))))) s0
def F6w:=en2 194 G68
def D54:Code:=cp 195 [1,0]
def B3e:List Value:=a::b::undef::c::un 15 []
@[simp]def F0e(C:cT)(K:kT)(I:V3)(a b c:vT):oT:=bC .geq 3 c 0 fun d=>cw d (bL 230 b fun e=>bI 230 e c fun f=>bL 204 f fun g=>A0u P C a [c,g] fun h=>bM h fun i=>cw i (K .ret (ofL (B3e a b c))) (bC .sub 3 c 1 fun j=>I a b j)) (K (.exit 0) (ofL (B3e a b c)))
def D0y:=lp3 h195 D54 0 B3e F0e (cp 195 [1,0,0])
def C3y(C:cT)(Q:pT)(s0:St):A0l:=A0h 0 (kB 195 Q s0)
@[simp]theorem E6p:(C3y C Q s0) (.exit 0) (ofL (B3e a b c)) s=r0 Q s0 s:=by kernel_rfl
@[simp]theorem E00:(C3y C Q s0) .ret (ofL (B3e a b c)) s=r0 Q s0 s:=by kernel_rfl
@[simp]def G3n(C:cT)(Q:pT)(a b:vT)(s0:St):Prop:=(bL 230 b fun c=>bH 230 c fun d=>bC .sub 3 d 1 fun e=>evC P C h195 D54 0 (C3y C Q s0) (ofL (B3e a b e))) s0
def F51:=en2 195 G3n
@[simp]def G8d(C:cT)(Q:pT)(a:vT)(s0:St):Prop:=(oN a fun b=>oF 233 0 b fun c=>oL 230 c fun d=>oN a fun e=>oF 233 0 e fun f=>oL 230 f fun g=>oH 230 g fun h=>mw (mslN (A0e P 34) h h) (cf C 206 [d] fun i=>kL 230 f g (ck (some true) (fun s=>(lenR P 230 g s)=some h) (newW (mslN (A0e P 34) h h) fun j=>bJ j fun l=>bN a fun m=>bF 233 1 m fun n=>bL 34 n fun o=>cpyW (A0e P 34) l o fun _=>r2 Q s0 i l)))) s0
def E94:=en1 196 G8d
@[simp]def G95(C:cT)(Q:pT)(a b c:vT)(s0:St):Prop:=(bH 230 a fun d=>bS (fun s=>slcV P 230 a (some b) (some c) (some d) s) fun _=>bV .eql 3 b c fun e=>cw e (r1 Q s0 a) (bH 230 a fun f=>oS (fun s=>slcV P 230 a none (some b) none s) fun g=>oS (fun s=>slcV P 230 a (some c) none none s) fun h=>apdW P (A0e P 230) 230 g h fun i=>bH 230 i fun j=>bS (fun s=>slcV P 230 i (some j) (some f) none s) fun l=>A6d P 230 l fun _=>r1 Q s0 i)) s0
def F2y:=en3 197 G95
@[simp]def H00(C:cT)(Q:pT)(a b c:vT)(s0:St):Prop:=(bH 34 a fun d=>bS (fun s=>slcV P 34 a (some b) (some c) (some d) s) fun _=>bV .eql 3 b c fun e=>cw e (r1 Q s0 a) (bH 34 a fun f=>oS (fun s=>slcV P 34 a none (some b) none s) fun g=>oS (fun s=>slcV P 34 a (some c) none none s) fun h=>apdW P (A0e P 34) 34 g h fun i=>bH 34 i fun j=>bS (fun s=>slcV P 34 i (some j) (some f) none s) fun l=>A6d P 34 l fun _=>r1 Q s0 i)) s0
def F0k:=en3 198 H00
@[simp]def G9h(C:cT)(Q:pT)(a b:vT)(s0:St):Prop:=(nB b fun c=>bL 204 c fun d=>cf C 151 [a,d] fun e=>bE e 0 fun f=>bE e 1 fun _=>bN a fun g=>bF 233 2 g fun h=>bL 231 h fun i=>bH 231 i fun j=>bC .sub 3 j 1 fun l=>bO (B3t min2 [f,l]) fun m=>r1 Q s0 m) s0
def F1j:=en2 199 G9h
@[simp]def G86(C:cT)(Q:pT)(a:vT)(s0:St):Prop:=(bV .eql 231 a (.slice none 0 0) fun b=>cw b (r1 Q s0 (.slice none 0 0)) (newW (bslN (A0e P 231) 0 #[]) fun c=>apdW P (A0e P 231) 231 c a fun d=>r1 Q s0 d)) s0
def F72:=en1 200 G86
@[simp]def G8v(C:cT)(Q:pT)(a:vT)(s0:St):Prop:=(bZ 199 a fun b=>cw b (r1 Q s0 (.int .i64 0)) (cf C 177 [a] fun c=>cw c (bN a fun d=>bF 233 0 d fun e=>bL 230 e fun f=>bH 230 f fun g=>r1 Q s0 g) (bN a fun h=>bF 233 2 h fun i=>bL 231 i fun j=>bH 231 j fun l=>r1 Q s0 l))) s0
def F33:=en1 201 G8v
def F17 : ByteArray := bAr [108, 101, 110, 32, 111, 117, 116, 32, 111, 102, 32, 114, 97, 110, 103, 101]
def D5n:Code:=cp 202 [2,1,0]
def C02:List Value:=a::undef::undef::b::un 5 (c::d::e::un 24 [])
@[simp]def F6h(C:cT)(K:kT)(I:V5)(a b c d e:vT):oT:=bV .lss 3 e d fun f=>cw f (bI 286 c e fun g=>bL 231 g fun h=>bH 231 h fun i=>bV .add 3 b i fun j=>bC .lss 3 j 0 fun l=>cw l (bO (mkIf 9 (A48 P 9) (.string F17)) fun _=>fun s=>False) (bA 3 e fun m=>I a j c d m)) (K (.exit 0) (ofL (C02 a b c d e)))
def D13:=lp5 h202 D5n 0 C02 F6h (cp 202 [2,1,0,0])
def D5e:Code:=cp 202 [4,1,0]
def C0x:List Value:=un 6 (a::un 18 (b::c::d::un 8 []))
@[simp]def F34(C:cT)(K:kT)(I:V4)(a b c d:vT):oT:=bV .lss 3 d c fun e=>cw e (bI 286 b d fun f=>bL 231 f fun g=>apdW P (A0e P 231) 231 a g fun h=>bA 3 d fun i=>I h b c i) (K (.exit 2) (ofL (C0x a b c d)))
def C8t:=lp4 h202 D5e 2 C0x F34 (cp 202 [4,1,0,0])
def D3h:A0l:=A0h 2 (kSeq (evC P C h202 (cp 202 [5]) 0 (kB 202 Q s0)) (kB 202 Q s0))
@[simp]theorem E5b:(D3h C Q s0) (.exit 2) (ofL (C0x a b c d)) s=r1 Q s0 a s:=by kernel_rfl
def C72:A0l:=A0h 0 (kSeq (evC P C h202 (cp 202 [3]) 0 (kB 202 Q s0)) (kB 202 Q s0))
@[simp]theorem E8w:(C72 C Q s0) (.exit 0) (ofL (C02 a b c d e)) s=(cf C 207 [(.slice none 0 0),b] fun f=>bH 286 a fun g=>evC P C h202 D5e 2 (D3h C Q s0) (ofL (C0x f a g (.int .i64 0)))) s:=by kernel_rfl
@[simp]def G4e(C:cT)(Q:pT)(a:vT)(s0:St):Prop:=(bH 286 a fun b=>evC P C h202 D5n 0 (C72 C Q s0) (ofL (C02 a (.int .i64 0) a b (.int .i64 0)))) s0
def F14:=en1 202 G4e
@[simp]def G3z(C:cT)(Q:pT)(a b:vT)(s0:St):Prop:=(bZ 199 a fun c=>wJf c b fun d=>wOf c (binV P .eql 199 d (.pointer none)) fun e=>bQ c e fun f=>wJf f a fun g=>wf f (fun k s=>A0u P C (fv 177) [g] k s) fun h=>wJf f b fun i=>wf f (fun k s=>A0u P C (fv 177) [i] k s) fun j=>wVf f .neq 4 h j fun l=>bQ f l fun m=>cw m (newW (bslN (A0e P 231) 2 #[(0,a),(1,b)]) fun n=>r1 Q s0 n) (cf C 177 [a] fun o=>cw o (cf C 196 [a] fun p=>bE p 0 fun q=>bE p 1 fun r=>cf C 196 [b] fun t=>bE t 0 fun u=>bE t 1 fun v=>newW (bslN (A0e P 291) 2 #[(0,q),(1,u)]) fun w=>cf C 209 [w] fun x=>newW (bslN (A0e P 293) 2 #[(0,r),(1,v)]) fun y=>cf C 210 [y] fun z=>cf C 208 [x,z] fun A=>r1 Q s0 A) (oN a fun B=>oF 233 2 B fun D=>oL 231 D fun E=>oN b fun F=>oF 233 2 F fun G=>oL 231 G fun H=>newW (bslN (A0e P 286) 2 #[(0,E),(1,H)]) fun J=>cf C 202 [J] fun M=>cf C 211 [M] fun N=>r1 Q s0 N))) s0
def D7q:=en2 203 G3z
def D64:Code:=cp 204 [2,1,0]
def B9u:List Value:=un 3 (a::un 7 (b::c::d::un 20 []))
@[simp]def F38(C:cT)(K:kT)(I:V4)(a b c d:vT):oT:=bV .lss 3 d c fun e=>cw e (bI 231 b d fun f=>bL 199 f fun g=>cf C 187 [g] fun h=>bE h 0 fun i=>bE h 1 fun _=>nZ 204 fun j=>sw 204 j i (oN a fun l=>oF 233 0 l fun m=>oL 230 m fun n=>oL 204 j fun o=>newW (bslN (A0e P 230) 1 #[(0,o)]) fun p=>kL 230 m n (apdW P (A0e P 230) 230 n p fun q=>oN a fun r=>oF 233 0 r fun t=>sw 230 t q (bA 3 d fun u=>I a b c u)))) (K (.exit 0) (ofL (B9u a b c d)))
def D1n:=lp4 h204 D64 0 B9u F38 (cp 204 [2,1,0,0])
def D5y:A0l:=A0h 0 (kSeq (evC P C h204 (cp 204 [3]) 0 (kB 204 Q s0)) (kB 204 Q s0))
@[simp]theorem E7y:(D5y C Q s0) (.exit 0) (ofL (B9u a b c d)) s=r1 Q s0 a s:=by kernel_rfl
@[simp]def G40(C:cT)(Q:pT)(a:vT)(s0:St):Prop:=(bO (A0r P 233 #[(2,a)]) fun b=>nB b fun c=>bH 231 a fun d=>evC P C h204 D64 0 (D5y C Q s0) (ofL (B9u c a d (.int .i64 0)))) s0
def F4e:=en1 204 G40
@[simp]def G23(C:cT)(Q:pT)(a b c d:vT)(s0:St):Prop:=(oI 28 a c fun e=>oL 3 e fun f=>oI 28 a b fun g=>oL 3 g fun h=>cf C 174 [f,h] fun i=>cw i (bN d fun j=>bL 3 j fun l=>bA 3 l fun m=>bN d fun n=>sw 3 n m (r2 Q s0 c b)) (r2 Q s0 b c)) s0
def F29:=en4 205 G23
@[simp]def H0k(C:cT)(Q:pT)(a:vT)(s0:St):Prop:=(bV .eql 230 a (.slice none 0 0) fun b=>cw b (r1 Q s0 (.slice none 0 0)) (newW (bslN (A0e P 230) 0 #[]) fun c=>apdW P (A0e P 230) 230 c a fun d=>r1 Q s0 d)) s0
def F6e:=en1 206 H0k
def F3a : ByteArray := bAr [99, 97, 110, 110, 111, 116, 32, 98, 101, 32, 110, 101, 103, 97, 116, 105, 118, 101]
@[simp]def D9m(C:cT)(Q:pT)(s0:St)(a:vT):oT:=r1 Q s0 a
@[simp]def G5g(C:cT)(Q:pT)(a b:vT)(s0:St):Prop:=(bC .lss 3 b 0 fun c=>cw c (bO (mkIf 9 (A48 P 9) (.string F3a)) fun _=>fun s=>False) (capW P 231 a fun d=>bH 231 a fun e=>bV .sub 3 d e fun f=>bV .sub 3 b f fun g=>bC .gtr 3 g 0 fun h=>cw h (capW P 231 a fun i=>bS (fun s=>slcV P 231 a none (some i) none s) fun j=>apdW P (A0e P 231) 3 j g fun l=>bH 231 a fun m=>bS (fun s=>slcV P 231 l none (some m) none s) fun n=>D9m C Q s0 n) (D9m C Q s0 a))) s0
def F5l:=en2 207 G5g
@[simp]def G4v(C:cT)(Q:pT)(a b:vT)(s0:St):Prop:=(bH 230 a fun c=>bC .leq 3 c 4 fun d=>cw d (bO (A0r P 233 #[(0,a),(1,b)]) fun e=>nB e fun f=>newW (bslN (A0e P 231) 1 #[(0,f)]) fun g=>r1 Q s0 g) (bH 230 a fun h=>bA 3 h fun i=>bC .quo 3 i 2 fun j=>oS (fun s=>slcV P 230 a none (some j) (some j) s) fun l=>oS (fun s=>slcV P 34 b none (some j) (some j) s) fun m=>oO (A0r P 233 #[(0,l),(1,m)]) fun n=>oS (fun s=>slcV P 230 a (some j) none none s) fun o=>oS (fun s=>slcV P 34 b (some j) none none s) fun p=>oO (A0r P 233 #[(0,o),(1,p)]) fun q=>mw (boxN q) (nB n fun r=>ck (some true) (fun s=>(slcV P 230 a (some j) none none s)=some o) (ck (some true) (fun s=>(slcV P 34 b (some j) none none s)=some p) (nB q fun t=>newW (bslN (A0e P 231) 2 #[(0,r),(1,t)]) fun u=>r1 Q s0 u))))) s0
def F37:=en2 208 G4v
def F4t : ByteArray := bAr [108, 101, 110, 32, 111, 117, 116, 32, 111, 102, 32, 114, 97, 110, 103, 101]
def D5l:Code:=cp 209 [2,1,0]
def B90:List Value:=a::undef::undef::b::un 5 (c::d::e::un 24 [])
@[simp]def F08(C:cT)(K:kT)(I:V5)(a b c d e:vT):oT:=bV .lss 3 e d fun f=>cw f (bI 291 c e fun g=>bL 230 g fun h=>bH 230 h fun i=>bV .add 3 b i fun j=>bC .lss 3 j 0 fun l=>cw l (bO (mkIf 9 (A48 P 9) (.string F4t)) fun _=>fun s=>False) (bA 3 e fun m=>I a j c d m)) (K (.exit 0) (ofL (B90 a b c d e)))
def C91:=lp5 h209 D5l 0 B90 F08 (cp 209 [2,1,0,0])
def D8b:Code:=cp 209 [4,1,0]
def B8n:List Value:=un 6 (a::un 18 (b::c::d::un 8 []))
@[simp]def F25(C:cT)(K:kT)(I:V4)(a b c d:vT):oT:=bV .lss 3 d c fun e=>cw e (bI 291 b d fun f=>bL 230 f fun g=>apdW P (A0e P 230) 230 a g fun h=>bA 3 d fun i=>I h b c i) (K (.exit 2) (ofL (B8n a b c d)))
def D1o:=lp4 h209 D8b 2 B8n F25 (cp 209 [4,1,0,0])
def D7k:A0l:=A0h 2 (kSeq (evC P C h209 (cp 209 [5]) 0 (kB 209 Q s0)) (kB 209 Q s0))
@[simp]theorem E81:(D7k C Q s0) (.exit 2) (ofL (B8n a b c d)) s=r1 Q s0 a s:=by kernel_rfl
def C6x:A0l:=A0h 0 (kSeq (evC P C h209 (cp 209 [3]) 0 (kB 209 Q s0)) (kB 209 Q s0))
@[simp]theorem E5s:(C6x C Q s0) (.exit 0) (ofL (B90 a b c d e)) s=(cf C 212 [(.slice none 0 0),b] fun f=>bH 291 a fun g=>evC P C h209 D8b 2 (D7k C Q s0) (ofL (B8n f a g (.int .i64 0)))) s:=by kernel_rfl
@[simp]def G4z(C:cT)(Q:pT)(a:vT)(s0:St):Prop:=(bH 291 a fun b=>evC P C h209 D5l 0 (C6x C Q s0) (ofL (B90 a (.int .i64 0) a b (.int .i64 0)))) s0
def F0o:=en1 209 G4z
def F6l : ByteArray := bAr [108, 101, 110, 32, 111, 117, 116, 32, 111, 102, 32, 114, 97, 110, 103, 101]
def D3k:Code:=cp 210 [2,1,0]
def B8z:List Value:=a::undef::undef::b::un 5 (c::d::e::un 24 [])
@[simp]def F7s(C:cT)(K:kT)(I:V5)(a b c d e:vT):oT:=bV .lss 3 e d fun f=>cw f (bI 293 c e fun g=>bL 34 g fun h=>bH 34 h fun i=>bV .add 3 b i fun j=>bC .lss 3 j 0 fun l=>cw l (bO (mkIf 9 (A48 P 9) (.string F6l)) fun _=>fun s=>False) (bA 3 e fun m=>I a j c d m)) (K (.exit 0) (ofL (B8z a b c d e)))
def C8n:=lp5 h210 D3k 0 B8z F7s (cp 210 [2,1,0,0])
def D79:Code:=cp 210 [4,1,0]
def C1d:List Value:=un 6 (a::un 18 (b::c::d::un 8 []))
@[simp]def F7c(C:cT)(K:kT)(I:V4)(a b c d:vT):oT:=bV .lss 3 d c fun e=>cw e (bI 293 b d fun f=>bL 34 f fun g=>apdW P (A0e P 34) 34 a g fun h=>bA 3 d fun i=>I h b c i) (K (.exit 2) (ofL (C1d a b c d)))
def C9u:=lp4 h210 D79 2 C1d F7c (cp 210 [4,1,0,0])
def D3m:A0l:=A0h 2 (kSeq (evC P C h210 (cp 210 [5]) 0 (kB 210 Q s0)) (kB 210 Q s0))
@[simp]theorem E5t:(D3m C Q s0) (.exit 2) (ofL (C1d a b c d)) s=r1 Q s0 a s:=by kernel_rfl
def C7y:A0l:=A0h 0 (kSeq (evC P C h210 (cp 210 [3]) 0 (kB 210 Q s0)) (kB 210 Q s0))
@[simp]theorem E80:(C7y C Q s0) (.exit 0) (ofL (B8z a b c d e)) s=(cf C 213 [(.slice none 0 0),b] fun f=>bH 293 a fun g=>evC P C h210 D79 2 (D3m C Q s0) (ofL (C1d f a g (.int .i64 0)))) s:=by kernel_rfl
@[simp]def G5e(C:cT)(Q:pT)(a:vT)(s0:St):Prop:=(bH 293 a fun b=>evC P C h210 D3k 0 (C7y C Q s0) (ofL (B8z a (.int .i64 0) a b (.int .i64 0)))) s0
def F3d:=en1 210 G5e
@[simp]def G64(C:cT)(Q:pT)(a:vT)(s0:St):Prop:=(bH 231 a fun b=>bC .leq 3 b 4 fun c=>cw c (cf C 204 [a] fun d=>newW (bslN (A0e P 231) 1 #[(0,d)]) fun e=>r1 Q s0 e) (bH 231 a fun f=>bA 3 f fun g=>bC .quo 3 g 2 fun h=>oS (fun s=>slcV P 231 a none (some h) (some h) s) fun i=>oS (fun s=>slcV P 231 a (some h) none none s) fun j=>cf C 204 [i] fun l=>ck (some true) (fun s=>(slcV P 231 a (some h) none none s)=some j) (cf C 204 [j] fun m=>newW (bslN (A0e P 231) 2 #[(0,l),(1,m)]) fun n=>r1 Q s0 n))) s0
def F3y:=en1 211 G64
def F6s : ByteArray := bAr [99, 97, 110, 110, 111, 116, 32, 98, 101, 32, 110, 101, 103, 97, 116, 105, 118, 101]
@[simp]def D8u(C:cT)(Q:pT)(s0:St)(a:vT):oT:=r1 Q s0 a
@[simp]def G3x(C:cT)(Q:pT)(a b:vT)(s0:St):Prop:=(bC .lss 3 b 0 fun c=>cw c (bO (mkIf 9 (A48 P 9) (.string F6s)) fun _=>fun s=>False) (capW P 230 a fun d=>bH 230 a fun e=>bV .sub 3 d e fun f=>bV .sub 3 b f fun g=>bC .gtr 3 g 0 fun h=>cw h (capW P 230 a fun i=>bS (fun s=>slcV P 230 a none (some i) none s) fun j=>apdW P (A0e P 230) 3 j g fun l=>bH 230 a fun m=>bS (fun s=>slcV P 230 l none (some m) none s) fun n=>D8u C Q s0 n) (D8u C Q s0 a))) s0
def E9r:=en2 212 G3x
def F5m : ByteArray := bAr [99, 97, 110, 110, 111, 116, 32, 98, 101, 32, 110, 101, 103, 97, 116, 105, 118, 101]
@[simp]def D6d(C:cT)(Q:pT)(s0:St)(a:vT):oT:=r1 Q s0 a
@[simp]def G7v(C:cT)(Q:pT)(a b:vT)(s0:St):Prop:=(bC .lss 3 b 0 fun c=>cw c (bO (mkIf 9 (A48 P 9) (.string F5m)) fun _=>fun s=>False) (capW P 34 a fun d=>bH 34 a fun e=>bV .sub 3 d e fun f=>bV .sub 3 b f fun g=>bC .gtr 3 g 0 fun h=>cw h (capW P 34 a fun i=>bS (fun s=>slcV P 34 a none (some i) none s) fun j=>apdW P (A0e P 34) 3 j g fun l=>bH 34 a fun m=>bS (fun s=>slcV P 34 l none (some m) none s) fun n=>D6d C Q s0 n) (D6d C Q s0 a))) s0
def F27:=en2 213 G7v
@[simp]def C5n(C:cT)(Q:pT)(s0:St):oT:=r1 Q s0 (.int .i64 0)
@[simp]def C5j:oT:=oN a fun c=>oF 83 6 c fun d=>oL 80 d fun e=>oF 49 3 b fun f=>oF 46 0 f fun g=>oL 3 g fun h=>cf C 63 [e,h] fun i=>cw i (oN a fun j=>oF 83 4 j fun l=>oL 78 l fun m=>oF 49 3 b fun n=>oL 46 n fun o=>oF 49 1 b fun p=>oL 43 p fun q=>cf C 245 [m,o,q] fun r=>r1 Q s0 r) (C5n C Q s0)
@[simp]def G83(C:cT)(Q:pT)(a b:vT)(s0:St):Prop:=(nB b fun c=>oN a fun d=>oF 83 5 d fun e=>oL 79 e fun f=>oF 49 1 c fun g=>oL 43 g fun h=>oF 49 2 c fun i=>oL 3 i fun j=>cf C 244 [f,h,j] fun l=>bC .neq 41 l 0 fun m=>cw m (r1 Q s0 l) (C5j C Q s0 a c)) s0
def F6q:=en2 235 G83
@[simp]def G9u(C:cT)(Q:pT)(a b:vT)(s0:St):Prop:=(nB b fun c=>oN a fun d=>oF 83 6 d fun e=>oL 80 e fun f=>oF 49 3 c fun g=>oF 46 0 g fun h=>oL 3 h fun i=>oF 49 3 c fun j=>oF 46 1 j fun l=>oL 3 l fun m=>oF 49 4 c fun n=>oL 43 n fun o=>oF 49 1 c fun p=>oL 43 p fun q=>cf C 237 [f,i,m,o,q] fun r=>r1 Q s0 r) s0
def F10:=en2 236 G9u
@[simp]def G4p(C:cT)(Q:pT)(a b c d e:vT)(s0:St):Prop:=(bZ 80 a fun f=>cw f (r1 Q s0 (.int .i64 1)) (bC .lss 3 b 1 fun g=>wJf g b fun h=>wCf g .geq 3 h 16 fun i=>bQ g i fun j=>cw j (r1 Q s0 (.int .i64 2)) (bN a fun l=>bF 130 0 l fun m=>bI 128 m b fun n=>bF 127 0 n fun o=>bL 4 o fun p=>cw p (r1 Q s0 (.int .i64 5)) (cf C 63 [a,c] fun q=>bM q fun r=>cw r (r1 Q s0 (.int .i64 4)) (bN a fun t=>bF 130 0 t fun u=>bI 128 u c fun v=>bF 127 3 v fun w=>bL 43 w fun x=>bV .lss 43 d x fun y=>wJf y e fun z=>wJf y d fun A=>wVf y .leq 43 z A fun B=>bQ y B fun D=>cw D (r1 Q s0 (.int .i64 15)) (bO (A0r P 127 #[(0,(.bool true)),(1,c),(2,d),(3,e)]) fun E=>bN a fun F=>bF 130 0 F fun G=>bI 128 G b fun H=>sw 127 H E (r1 Q s0 (.int .i64 0)))))))) s0
def F2f:=en5 237 G4p
@[simp]def G19(C:cT)(Q:pT)(a b:vT)(s0:St):Prop:=(nB b fun c=>oN a fun d=>oF 83 6 d fun e=>oL 80 e fun f=>oF 49 3 c fun g=>oF 46 0 g fun h=>oL 3 h fun i=>cf C 239 [f,i] fun j=>r1 Q s0 j) s0
def F2n:=en2 238 G19
@[simp]def G8f(C:cT)(Q:pT)(a b:vT)(s0:St):Prop:=(bZ 80 a fun c=>cw c (r1 Q s0 (.int .i64 1)) (bC .eql 3 b 0 fun d=>cw d (r1 Q s0 (.int .i64 7)) (cf C 63 [a,b] fun e=>bM e fun f=>cw f (r1 Q s0 (.int .i64 4)) (cf C 246 [a,b] fun g=>bC .gtr 3 g 0 fun h=>cw h (r1 Q s0 (.int .i64 12)) (bO (A0r P 127 #[]) fun i=>bN a fun j=>bF 130 0 j fun l=>bI 128 l b fun m=>sw 127 m i (r1 Q s0 (.int .i64 0))))))) s0
def F6i:=en2 239 G8f
@[simp]def G1n(C:cT)(Q:pT)(a b:vT)(s0:St):Prop:=(nB b fun c=>oN a fun d=>oF 83 7 d fun e=>oL 81 e fun f=>oF 49 4 c fun g=>oL 43 g fun h=>oF 49 5 c fun i=>oL 3 i fun j=>oF 49 6 c fun l=>oL 3 l fun m=>oF 49 7 c fun n=>oL 3 n fun o=>oO (A0r P 93 #[(0,h),(1,j),(2,m),(3,o)]) fun p=>oF 49 1 c fun q=>oL 43 q fun r=>oF 49 2 c fun t=>oL 3 t fun u=>cf C 241 [f,p,r,u] fun v=>r1 Q s0 v) s0
def F3g:=en2 240 G1n
@[simp]def G7d(C:cT)(Q:pT)(a b c d:vT)(s0:St):Prop:=(nB b fun e=>nB c fun f=>nB d fun g=>bZ 81 a fun h=>cw h (r1 Q s0 (.int .i64 1)) (bL 93 e fun i=>cf C 247 [i] fun j=>bM j fun l=>wLf l 3 g fun m=>wf l (fun k s=>A0u P C (fv 248) [m] k s) fun n=>wOf l (unV .not n) fun o=>bQ l o fun p=>cw p (r1 Q s0 (.int .i64 2)) (bF 93 3 e fun q=>bL 3 q fun r=>bL 3 g fun t=>bV .leq 3 r t fun u=>cw u (r1 Q s0 (.int .i64 7)) (bF 93 0 e fun v=>bL 43 v fun w=>cf C 127 [a,w] fun x=>bC .geq 3 x 0 fun y=>cw y (r1 Q s0 (.int .i64 5)) (bN a fun z=>bF 134 0 z fun A=>bL 132 A fun B=>bO (mkFn 249 #[] #[f,g]) fun D=>cf C 163 [B,D] fun E=>cw E (r1 Q s0 (.int .i64 15)) (bN a fun F=>bF 134 0 F fun G=>bL 132 G fun H=>bH 132 H fun J=>bC .geq 3 J 64 fun M=>cw M (r1 Q s0 (.int .i64 6)) (oN a fun N=>oF 134 0 N fun O=>oL 132 O fun R=>oL 93 e fun T=>oL 43 f fun U=>oL 3 g fun V=>oO (A0r P 95 #[(0,T),(1,U),(2,V)]) fun W=>newW (bslN (A0e P 132) 1 #[(0,W)]) fun X=>kL 132 O R (apdW P (A0e P 132) 132 R X fun Y=>oN a fun Z=>oF 134 0 Z fun a0=>sw 132 a0 Y (r1 Q s0 (.int .i64 0)))))))))) s0
def F65:=en4 241 G7d
@[simp]def G39(C:cT)(Q:pT)(a b:vT)(s0:St):Prop:=(nB b fun c=>oN a fun d=>oF 83 7 d fun e=>oL 81 e fun f=>oF 49 4 c fun g=>oL 43 g fun h=>cf C 94 [f,h] fun i=>r1 Q s0 i) s0
def F4l:=en2 242 G39
@[simp]def H0w(C:cT)(Q:pT)(a b:vT)(s0:St):Prop:=(nB b fun _=>r1 Q s0 (.int .i64 0)) s0
def F19:=en2 243 H0w
@[simp]def G3v(C:cT)(Q:pT)(a b c:vT)(s0:St):Prop:=(bZ 79 a fun d=>cw d (r1 Q s0 (.int .i64 1)) (bV .lss 43 b (.int .u64 1) fun e=>wJf e b fun f=>wVf e .gtr 43 f (.int .u64 65535) fun g=>bQ e g fun h=>wJf h c fun i=>wCf h .lss 3 i 0 fun j=>bQ h j fun l=>wJf l c fun m=>wCf l .gtr 3 m 1073741824 fun n=>bQ l n fun o=>cw o (r1 Q s0 (.int .i64 2)) (bN a fun p=>bF 149 0 p fun q=>bL 144 q fun r=>bH 144 r fun t=>bC .gtr 3 t 0 fun u=>wJt u a fun v=>wOt u (nilV v) fun w=>wFt u 149 0 w fun x=>wLt u 144 x fun y=>wJt u t fun z=>wCt u .sub 3 z 1 fun A=>wIt u 144 y A fun B=>wFt u 147 0 B fun D=>wLt u 43 D fun E=>wJt u b fun F=>wVt u .geq 43 E F fun G=>wJt u G fun H=>wJf H a fun J=>wOf H (nilV J) fun M=>wFf H 149 0 M fun N=>wLf H 144 N fun O=>wJf H t fun R=>wCf H .sub 3 R 1 fun T=>wIf H 144 O T fun U=>wFf H 147 1 U fun V=>wLf H 3 V fun W=>wJf H c fun X=>wVf H .gtr 3 W X fun Y=>wOt u (A6r H (.bool true) Y) fun Z=>bP u Z fun a0=>cw a0 (r1 Q s0 (.int .i64 15)) (bN a fun a1=>bF 149 0 a1 fun a2=>bL 144 a2 fun a3=>bO (A0r P 147 #[(0,b),(1,c)]) fun a4=>newW (bslN (A0e P 144) 1 #[(0,a4)]) fun a5=>apdW P (A0e P 144) 144 a3 a5 fun a6=>bN a fun a7=>bF 149 0 a7 fun a8=>sw 144 a8 a6 (r1 Q s0 (.int .i64 0)))))) s0
def F2j:=en3 244 G3v
@[simp]def B4f:oT:=oN a fun d=>oF 143 0 d fun e=>oL 140 e fun f=>oL 46 c fun g=>oO (A0r P 204 #[(0,g),(1,b)]) fun h=>cf C 251 [f,h,b] fun i=>oN a fun j=>oF 143 0 j fun l=>sw 140 l i (r1 Q s0 (.int .i64 0))
@[simp]def C0y:oT:=bL 46 c fun d=>cf C 250 [a,d,(.int .u64 18446744073709551615)] fun e=>bE e 0 fun f=>bE e 1 fun g=>wJt g f fun h=>wJt g b fun i=>wVt g .geq 43 h i fun j=>bP g j fun l=>cw l (r1 Q s0 (.int .i64 15)) (B4f C Q s0 a b c)
@[simp]def G9o(C:cT)(Q:pT)(a b c:vT)(s0:St):Prop:=(nB b fun d=>bZ 78 a fun e=>wJf e c fun f=>wVf e .eql 43 f (.int .u64 0) fun g=>bQ e g fun h=>cw h (r1 Q s0 (.int .i64 1)) (C0y C Q s0 a c d)) s0
def E9m:=en3 245 G9o
def D4u:Code:=cp 246 [3,1,0]
def B9h:List Value:=undef::a::un 3 (b::un 9 (c::d::un 14 []))
@[simp]def D8x(C:cT)(K:kT)(I:V4)(a b c d:vT):oT:=bA 3 d fun e=>I a b c e
@[simp]def F00(C:cT)(K:kT)(I:V4)(a b c d:vT):oT:=bC .lss 3 d 16 fun e=>cw e (bO (B3l (B5a P 128) (A46 P 128) c d) fun f=>nZ 127 fun g=>sw 127 g f (bF 127 0 g fun h=>bL 4 h fun i=>wFt i 127 1 g fun j=>wLt i 3 j fun l=>wJt i a fun m=>wVt i .eql 3 l m fun n=>bP i n fun o=>cw o (bA 3 b fun p=>D8x C K I a p c d) (D8x C K I a b c d))) (K (.exit 0) (ofL (B9h a b c d)))
def D14:=lp4 h246 D4u 0 B9h F00 (cp 246 [3,1,0,0])
def D7x:A0l:=A0h 0 (kSeq (evC P C h246 (cp 246 [4]) 0 (kB 246 Q s0)) (kB 246 Q s0))
@[simp]theorem E8c:(D7x C Q s0) (.exit 0) (ofL (B9h a b c d)) s=r1 Q s0 b s:=by kernel_rfl
@[simp]def G2y(C:cT)(Q:pT)(a b:vT)(s0:St):Prop:=(cf C 63 [a,b] fun c=>bM c fun d=>cw d (r1 Q s0 (.int .i64 0)) (bN a fun e=>bF 130 0 e fun f=>bL 128 f fun g=>evC P C h246 D4u 0 (D7x C Q s0) (ofL (B9h b (.int .i64 0) g (.int .i64 0))))) s0
def F6g:=en2 246 G2y
@[simp]def G3u(C:cT)(Q:pT)(a:vT)(s0:St):Prop:=(nB a fun b=>oF 93 0 b fun c=>oL 43 c fun d=>oV .neq 43 d (.int .u64 0) fun e=>oF 93 1 b fun f=>oL 3 f fun g=>oF 93 2 b fun h=>oL 3 h fun i=>oF 93 3 b fun j=>oL 3 j fun l=>oF 93 1 b fun m=>oL 3 m fun n=>oF 93 2 b fun o=>oL 3 o fun p=>oV .leq 3 n p fun q=>mw (B40 (A2r P 318)) (cf C 248 [g] fun r=>kL 43 c d (kL 3 h i (kL 3 j l (kL 3 m n (kL 3 o p (cf C 248 [i] fun t=>kL 43 c d (kL 3 j l (kL 3 m n (kL 3 o p (cf C 248 [l] fun u=>kL 43 c d (kL 3 m n (kL 3 o p (oO (A0r P 318 #[(0,e),(1,r),(2,t),(3,u),(4,q)]) fun v=>nZ 318 fun w=>sw 318 w v (bL 318 w fun x=>bO (A0r P 318 #[(0,(.bool true)),(1,(.bool true)),(2,(.bool true)),(3,(.bool true)),(4,(.bool true))]) fun y=>bV .eql 318 x y fun z=>r1 Q s0 z))))))))))))))) s0
def F2a:=en1 247 G3u
@[simp]def G4g(C:cT)(Q:pT)(a:vT)(s0:St):Prop:=(bC .geq 3 a 0 fun b=>wJt b a fun c=>wCt b .leq 3 c 1073741824 fun d=>bP b d fun e=>r1 Q s0 e) s0
def E9y:=en1 248 G4g
@[simp]def G6q(C:cT)(Q:pT)(a b c:vT)(s0:St):Prop:=(nB a fun d=>bF 95 1 d fun e=>bL 43 e fun f=>bL 43 b fun g=>bV .geq 43 f g fun h=>wFf h 95 2 d fun i=>wLf h 3 i fun j=>wLf h 3 c fun l=>wVf h .gtr 3 j l fun m=>bQ h m fun n=>r1 Q s0 n) s0
def F4j:=en3 249 G6q
@[simp]def G9f(C:cT)(Q:pT)(a b c:vT)(s0:St):Prop:=(nB b fun d=>bZ 78 a fun e=>cw e (r2 Q s0 (.int .u64 0) (.bool false)) (oN a fun f=>oF 143 0 f fun g=>oL 140 g fun h=>oL 46 d fun i=>oO (A0r P 204 #[(0,i),(1,c)]) fun j=>mw (B40 (A2r P 204)) (cf C 252 [h,j] fun l=>oE l 0 fun m=>oE l 1 fun _=>oE l 2 fun n=>nZ 204 fun o=>sw 204 o m (bM n fun p=>wFf p 204 0 o fun q=>wLf p 46 q fun r=>wLf p 46 d fun t=>wVf p .neq 46 r t fun u=>bQ p u fun v=>cw v (r2 Q s0 (.int .u64 0) (.bool false)) (bF 204 1 o fun w=>bL 43 w fun x=>r2 Q s0 x (.bool true)))))) s0
def F7j:=en3 250 G9f
def D2p:Code:=cp 251 [6,1,0]
def B8y:List Value:=un 7 (a::un 3 (b::un 33 (c::d::e::un 23 [])))
@[simp]def B5b(C:cT)(K:kT)(I:V5)(a b c d e:vT):oT:=bA 3 e fun f=>I a b c d f
@[simp]def B5w(C:cT)(K:kT)(I:V5)(a b c d e:vT):oT:=bI 231 c e fun f=>bL 199 f fun g=>cf C 187 [g] fun h=>bE h 0 fun i=>bE h 1 fun _=>nZ 204 fun j=>sw 204 j i (oN b fun l=>oF 233 0 l fun m=>oL 230 m fun n=>oL 204 j fun o=>newW (bslN (A0e P 230) 1 #[(0,o)]) fun p=>kL 230 m n (apdW P (A0e P 230) 230 n p fun q=>oN b fun r=>oF 233 0 r fun t=>sw 230 t q (B5b C K I a b c d e)))
@[simp]def E9u(C:cT)(K:kT)(I:V5)(a b c d e:vT):oT:=bV .lss 3 e d fun f=>cw f (B5w C K I a b c d e) (K (.exit 0) (ofL (B8y a b c d e)))
def D1e:=lp5 h251 D2p 0 B8y E9u (cp 251 [6,1,0,0])
@[simp]def B5t(C:cT)(Q:pT)(s0:St)(a b:vT):oT:=bO (A0r P 201 #[(0,b),(1,a)]) fun c=>nB c fun d=>r1 Q s0 d
def D7s:A0l:=A0h 0 (kSeq (evC P C h251 (cp 251 [7]) 0 (kB 251 Q s0)) (kB 251 Q s0))
@[simp]theorem E6u:(D7s C Q s0) (.exit 0) (ofL (B8y a b c d e)) s=B5t C Q s0 a b s:=by kernel_rfl
@[simp]def B4z:oT:=bO (A0r P 233 #[(2,b)]) fun c=>nB c fun d=>bH 231 b fun e=>evC P C h251 D2p 0 (D7s C Q s0) (ofL (B8y a d b e (.int .i64 0)))
@[simp]def B0g:oT:=oL 204 c fun e=>cf C 153 [a] fun f=>kL 204 c e (cf C 253 [f,e,b] fun g=>bH 231 g fun h=>bC .eql 3 h 1 fun i=>cw i (bI 231 g (.int .i64 0) fun j=>bL 199 j fun l=>bO (A0r P 201 #[(0,l),(1,d)]) fun m=>nB m fun n=>r1 Q s0 n) (B4z C Q s0 d g))
@[simp]def G4f(C:cT)(Q:pT)(a b c:vT)(s0:St):Prop:=(nB b fun d=>cf C 154 [a] fun e=>bL 204 d fun f=>cf C 124 [a,f] fun g=>bE g 0 fun _=>bE g 1 fun h=>bM h fun i=>cw i (bA 3 e fun j=>B0g C Q s0 a c d j) (B0g C Q s0 a c d e)) s0
def F7d:=en3 251 G4f
@[simp]def G7g(C:cT)(Q:pT)(a b:vT)(s0:St):Prop:=(nB b fun c=>nZ 204 fun d=>bL 204 c fun e=>cf C 150 [a,e] fun f=>bE f 0 fun g=>bE f 1 fun _=>bL 204 c fun h=>cf C 186 [g,h,(fv 254)] fun i=>bE i 0 fun j=>bE i 1 fun l=>bE i 2 fun m=>sw 204 d j fun s=>kEnd Q s0 (retV (A03 (A04 (tAgg P 204) d s) (A03 (some l) (A03 (some m) (some []))))) s) s0
def F36:=en2 252 G7g
@[simp]def G8k(C:cT)(Q:pT)(a b c:vT)(s0:St):Prop:=(nB b fun d=>bZ 199 a fun e=>cw e (bL 204 d fun f=>newW (bslN (A0e P 230) 1 #[(0,f)]) fun g=>newW (bslN (A0e P 34) 1 #[(0,c)]) fun h=>bO (A0r P 233 #[(0,g),(1,h)]) fun i=>nB i fun j=>newW (bslN (A0e P 231) 1 #[(0,j)]) fun l=>r1 Q s0 l) (cf C 177 [a] fun m=>cw m (bL 204 d fun n=>cf C 151 [a,n] fun o=>bE o 0 fun p=>bE o 1 fun q=>cf C 196 [a] fun r=>bE r 0 fun t=>bE r 1 fun u=>cw q (bI 34 u p fun v=>sw 43 v c (bO (A0r P 233 #[(0,t),(1,u)]) fun w=>nB w fun x=>newW (bslN (A0e P 231) 1 #[(0,x)]) fun y=>r1 Q s0 y)) (bL 204 d fun z=>newW (bslN (A0e P 230) 1 #[(0,z)]) fun A=>cf C 255 [t,p,A] fun B=>newW (bslN (A0e P 34) 1 #[(0,c)]) fun D=>cf C 256 [u,p,D] fun E=>cf C 208 [B,E] fun F=>r1 Q s0 F)) (bL 204 d fun G=>cf C 199 [a,G] fun H=>oN a fun J=>oF 233 2 J fun M=>oL 231 M fun N=>oS (fun s=>slcV P 231 N none (some H) none s) fun O=>oN a fun R=>oF 233 2 R fun T=>oL 231 T fun U=>oI 231 U H fun V=>oL 199 V fun W=>oL 204 d fun X=>oN a fun Y=>oF 233 2 Y fun Z=>oL 231 Z fun a0=>oA 3 H fun a1=>oS (fun s=>slcV P 231 a0 (some a1) none none s) fun a2=>cf C 253 [W,X,c] fun a3=>kL 231 M N (ck (some true) (fun s=>(slcV P 231 N none (some H) none s)=some O) (kL 231 Z a0 (ck (some true) (fun s=>(slcV P 231 a0 (some a1) none none s)=some a2) (newW (bslN (A0e P 286) 3 #[(0,O),(1,a3),(2,a2)]) fun a4=>cf C 202 [a4] fun a5=>cf C 211 [a5] fun a6=>r1 Q s0 a6))))))) s0
def C3o:=en3 253 G8k
@[simp]def G3d(C:cT)(Q:pT)(a b:vT)(s0:St):Prop:=(cw b (r1 Q s0 a) (bC .sub 3 a 1 fun c=>r1 Q s0 c)) s0
def F59:=en2 254 G3d
@[simp]def G4d(C:cT)(Q:pT)(a b c:vT)(s0:St):Prop:=(bS (fun s0=>slcV P 230 a (some b) none none s0) fun _=>bH 230 c fun d=>bC .eql 3 d 0 fun e=>cw e (r1 Q s0 a) (bH 230 a fun f=>bV .eql 3 b f fun g=>cw g (apdW P (A0e P 230) 230 a c fun h=>r1 Q s0 h) (bV .add 3 f d fun i=>capW P 230 a fun j=>bV .gtr 3 i j fun l=>cw l (bS (fun s=>slcV P 230 a none (some b) none s) fun m=>bV .add 3 f d fun n=>bV .sub 3 n b fun o=>apdW P (A0e P 230) 3 m o fun p=>bS (fun s=>slcV P 230 p (some b) none none s) fun q=>cpyW (A0e P 230) q c fun _=>oV .add 3 b d fun r=>oS (fun s=>slcV P 230 p (some r) none none s) fun t=>oS (fun s=>slcV P 230 a (some b) none none s) fun u=>cpyW (A0e P 230) t u fun _=>r1 Q s0 p) (bV .add 3 f d fun v=>bS (fun s=>slcV P 230 a none (some v) none s) fun w=>bV .add 3 b d fun x=>bS (fun s=>slcV P 230 w (some x) none none s) fun y=>cf C 257 [c,y] fun z=>bM z fun A=>cw A (oV .add 3 b d fun B=>oS (fun s=>slcV P 230 w (some B) none none s) fun D=>oS (fun s=>slcV P 230 w (some b) none none s) fun E=>cpyW (A0e P 230) D E fun _=>bS (fun s=>slcV P 230 w (some b) none none s) fun F=>cpyW (A0e P 230) F c fun _=>r1 Q s0 w) (bS (fun s=>slcV P 230 w (some f) none none s) fun G=>cpyW (A0e P 230) G c fun _=>bS (fun s=>slcV P 230 w (some b) none none s) fun H=>cf C 258 [H,d] fun _=>r1 Q s0 w))))) s0
def E91:=en3 255 G4d
@[simp]def H0p(C:cT)(Q:pT)(a b c:vT)(s0:St):Prop:=(bS (fun s0=>slcV P 34 a (some b) none none s0) fun _=>bH 34 c fun d=>bC .eql 3 d 0 fun e=>cw e (r1 Q s0 a) (bH 34 a fun f=>bV .eql 3 b f fun g=>cw g (apdW P (A0e P 34) 34 a c fun h=>r1 Q s0 h) (bV .add 3 f d fun i=>capW P 34 a fun j=>bV .gtr 3 i j fun l=>cw l (bS (fun s=>slcV P 34 a none (some b) none s) fun m=>bV .add 3 f d fun n=>bV .sub 3 n b fun o=>apdW P (A0e P 34) 3 m o fun p=>bS (fun s=>slcV P 34 p (some b) none none s) fun q=>cpyW (A0e P 34) q c fun _=>oV .add 3 b d fun r=>oS (fun s=>slcV P 34 p (some r) none none s) fun t=>oS (fun s=>slcV P 34 a (some b) none none s) fun u=>cpyW (A0e P 34) t u fun _=>r1 Q s0 p) (bV .add 3 f d fun v=>bS (fun s=>slcV P 34 a none (some v) none s) fun w=>bV .add 3 b d fun x=>bS (fun s=>slcV P 34 w (some x) none none s) fun y=>cf C 259 [c,y] fun z=>bM z fun A=>cw A (oV .add 3 b d fun B=>oS (fun s=>slcV P 34 w (some B) none none s) fun D=>oS (fun s=>slcV P 34 w (some b) none none s) fun E=>cpyW (A0e P 34) D E fun _=>bS (fun s=>slcV P 34 w (some b) none none s) fun F=>cpyW (A0e P 34) F c fun _=>r1 Q s0 w) (bS (fun s=>slcV P 34 w (some f) none none s) fun G=>cpyW (A0e P 34) G c fun _=>bS (fun s=>slcV P 34 w (some b) none none s) fun H=>cf C 260 [H,d] fun _=>r1 Q s0 w))))) s0
def F0p:=en3 256 H0p
end
end Go.Zz
