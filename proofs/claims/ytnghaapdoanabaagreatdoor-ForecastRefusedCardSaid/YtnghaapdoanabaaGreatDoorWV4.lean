import Derived.Test.YtnghaapdoanabaaGreatDoorWV5
set_option linter.all false
set_option maxRecDepth 20000
set_option linter.all false
namespace Go.Zz
open Go
noncomputable section
variable (C:cT)(K:kT)(Q:pT)(s0:St)(a b c d e f g h i j l m n o p q r t u v w x y z A B D E F G H J M N O R T U V W X Y Z a0 a1 a2 a3 a4 a5 a6 a7 a8 a9 b0 b1 b2 b3 b4 b5 b6 b7 b8 b9:vT)(s:St)
def G2e:Code:=cp 4 [7,1,0]
def C33:List Value:=undef::undef::a::un 7 (b::c::d::undef::e::f::g::h::un 31 (i::j::un 53 []))
@[simp]def f4xB0(C:cT)(K:kT)(I:V10)(a b c d e f g h i j:vT):oT:=bV .lss 3 j i fun l=>cw l (cf C 13 [c] fun m=>bA 3 j fun n=>bV .mul 3 n d fun o=>bV .add 3 m o fun p=>cf C 12 [f,p] fun q=>bH 34 q fun r=>bA 3 r fun t=>bR 5 3 a fun u=>bV .gtr 3 t u fun v=>cw v (K (.exit 0) (ofL (C33 a b c d e f p (.bool true) i j))) (cf C 15 [j,(.int .i64 2),(.int .i64 3)] fun w=>bE w 0 fun x=>bE w 1 fun y=>oO (A0r P 46 #[(1,x),(2,y)]) fun z=>mw (mslN (A0e P 47) (.int .i64 32) (.int .i64 32)) (cf C 17 [f] fun A=>oV .add 43 A (.int .u64 1) fun B=>newW (mslN (A0e P 47) (.int .i64 32) (.int .i64 32)) fun D=>bO (A0r P 49 #[(0,(.int .i64 1)),(1,B),(2,p),(3,z),(8,D)]) fun E=>cf C 16 [f,E] fun F=>oC .neq 41 F 0 fun G=>cw G (K .ret (ofL (C33 a (.bool false) c d e f g h i j))) (bA 3 j fun H=>I a b c d e f g h i H)))) (K (.exit 0) (ofL (C33 a b c d e f g h i j)))
def E4m:=lp10 h4 G2e 0 C33 f4xB0 (cp 4 [7,1,0,0])
def F7y:A0l:=A0h 0 (kSeq (evC P C h4 (cp 4 [8]) 0 (kB 4 Q s0)) (kB 4 Q s0))
@[simp]theorem B65:(F7y C Q s0) (.exit 0) (ofL (C33 a b c d e f g h i j)) s=(bR 5 3 a fun l=>cf C 18 [c,l,d,e] fun m=>bE m 0 fun n=>bE m 1 fun o=>bV .eql 3 n g fun p=>wJt p o fun q=>wJt p h fun r=>wVt p .eql 4 q r fun t=>bP p t fun u=>r1 Q s0 u) s:=by kernel_rfl
@[simp]def f4xS(C:cT)(Q:pT)(a b c d e:vT)(s0:St):Prop:=(cf C 9 [a,b] fun f=>cf C 10 [] fun g=>bM g fun h=>wJf h f fun i=>wOf h (binV P .eql 25 i (.pointer none)) fun j=>bQ h j fun l=>cw l (cf C 10 [] fun m=>r1 Q s0 m) (bR 5 3 d fun n=>bC .rem 3 n 40 fun o=>bV .add 3 (.int .i64 1) o fun p=>bR 5 3 e fun q=>bC .rem 3 q 14 fun r=>cf C 13 [f] fun t=>bV .mul 3 r p fun u=>bV .add 3 t u fun v=>cf C 14 [f] fun w=>evC P C h4 G2e 0 (F7y C Q s0) (ofL (C33 c (.bool false) f p v w (.int .i64 0) (.bool false) r (.int .i64 0))))) s0
def f4xin:=en5 4 f4xS
@[simp]def f15xS(C:cT)(Q:pT)(a b c:vT)(s0:St):Prop:=(bV .mul 3 b c fun d=>bV .rem 3 a d fun e=>oV .quo 3 e c fun f=>oV .rem 3 e c fun g=>r2 Q s0 f g) s0
def G8j:=en3 15 f15xS
end
variable {X : Y0}
theorem D17{s:St}{Q:Post}{i:Nat}(hi:i<=100)(hq:Q (.tuple #[.int .i64 (pl i).1,.int .i64 (pl i).2]) s):CC X 15 [.int .i64 i,.int .i64 2,.int .i64 3] Q s:=by
 have h6:0<=(i:Int)%6/\(i:Int)%6<6:=⟨Int.emod_nonneg _ (by decide),Int.emod_lt_of_pos _ (by decide)⟩
 refine G8j rfl ?_
 try simp -implicitDefEqProofs (disch:=first|exact dsc|fail)[]
 have e:(pl i)=((i:Int)%6/3,(i:Int)%3):=by unfold pl;rw[show i%6%3=i%3 by omega];simp
 rw[e]at hq;exact hq
def pP(i:Nat):Int×Int:=if i=0 then(0,0)else pl (i-1)
theorem F1m{M:A02}{t:Int}{i:Nat}(h:Inv M)(h0:0<=M.now)(h1:0<=M.top/\M.top<65535)(h2:M.now<=t/\t<=1073741824):B26 M t (pP i) (decide (i=0))=pl i:=by
 cases i with
 | zero=>rfl
 | succ i=>simp only[B26,pP];simp;exact G2r h h0 h1 h2
theorem C70{k:Nat}(h:inC 19 k):¬inC 1 k:=by unfold inC at *;omega
theorem F6z{k:Nat}(h:inC 19 k):k≠0:=by unfold inC at h;omega
theorem Refused_spec{s:St}{Q:Post}{v w:Value}{rs:List RuleM}{l:List StepM}{most every many:Int}(hm:0<=most/\most<256)(he:0<=every/\every<256)(hn:0<=many/\many<256)(hK:A2z s (fun _=>0))(hv:A3m.In s v rs)(hw:A3x.In s w l)(ha:∀x∈l,0<=x.a)
  (hq:Q (.bool true) s):CC X 4 [v,w,.int .u8 most,.int .u8 every,.int .u8 many] Q s:=by
 have hp0:¬inC 1 0:=by unfold inC;omega
 have hp19:¬inC 19 0:=by unfold inC;omega
 refine f4xin rfl ?_
 try simp -implicitDefEqProofs (disch:=first|exact dsc|fail)[]
 refine A77 1 (by decide) hK hv (fun S o' F=>hw.old (F.back hp0)) ha ?_ (fun m M S o' F hM hI htop hnow14 hK'=>?_)
 ·try simp -implicitDefEqProofs (disch:=first|exact dsc|fail)[]
  refine A1h hK ?_
  try simp -implicitDefEqProofs (disch:=first|exact dsc|fail)[A6j]
  refine A1h hK ?_
  try simp -implicitDefEqProofs (disch:=first|exact dsc|fail)[]
  exact hq
 ·obtain⟨x,t,f,b,mc,sl,hM⟩:=hM;have hnow:=hM.now;have htop0:=hM.top;have hmod:0<=every%40/\every%40<40:=⟨Int.emod_nonneg _ (by decide),Int.emod_lt_of_pos _ (by decide)⟩
  have hmod2:0<=many%14/\many%14<14:=⟨Int.emod_nonneg _ (by decide),Int.emod_lt_of_pos _ (by decide)⟩
  try simp -implicitDefEqProofs (disch:=first|exact dsc|fail)[]
  refine A1h hK' ?_
  try simp -implicitDefEqProofs (disch:=first|exact dsc|fail)[A0j A0f]
  have hst:1<=1+every%40/\1+every%40<=40:=by omega
  generalize 1+every%40=st at *;generalize many%14=nn at *;obtain⟨n,rfl⟩:=Int.eq_ofNat_of_zero_le hmod2.1;have hpr1:0<=(n:Int)*st:=Int.mul_nonneg hmod2.1 (by omega)
  have hpr2:(n:Int)*st<=13*st:=Int.mul_le_mul_of_nonneg_right (by omega) (by omega)
  refine A06 hM ?_
  try simp -implicitDefEqProofs (disch:=first|exact dsc|fail)[]
  refine B2u 19 (by decide) hM fun xm S1 o1 F1 hX=>?_
  have hM1:=hM.fd F1 (fun _ h=>h.elim) id;have K1:=hK'.fd F1 id;have FB:Fd s S1 (fun _=>0) o1 (fun k=>k≠0):=(F.mono fun _=>D4j).trans (F1.mono fun _ h=>h.elim);generalize hR:refL most st (M.now+n*st) 16 M M.now (0,0) true=RES;have out:∀S2 o2 I,Fd S1 S2 o1 o2 (inC 19)->F7y (CC X) Q s (.exit 0) (ofL (C33 (.int .u8 most) (.bool false) (.pointer (some ⟨m,0,none⟩)) (.int .i64 st) (.int .i64 (M.now+n*st)) (.pointer (some ⟨xm,0,none⟩)) (.int .i64 RES.1) (.bool RES.2) (.int .i64 n) I)) S2:=by
   intro S2 o2 I F2;have hM2:=hM1.fd F2 (fun k hk=>C70 hk) hp19
   try simp -implicitDefEqProofs (disch:=first|exact dsc|fail)[]
   refine A2d (c2:=7) (r:=16) (by decide) (K1.fd F2 hp19) hM2 hI (by omega) (by omega) (by omega) fun S3 o3 F3=>?_
   rw[hR]
   try simp -implicitDefEqProofs (disch:=first|exact dsc|fail)[D3i]
   exact A0b (((FB.trans (F2.mono fun _=>F6z)).trans (F3.mono fun _=>B62)).back (fun h=>h rfl)) (.bool _) hq
  refine E4m fun I hI2=>?_;refine up (n:=n) (M:=fun i=>∀S2 o2 Mi,Fd S1 S2 o1 o2 (inC 19)->C35 S2 o2 19 xm Mi->Inv Mi->Mi.top=M.top+i->(0<=Mi.now/\Mi.now<=M.now+i*st)->refL most st (M.now+n*st) (16-i) Mi (M.now+i*st) (pP i) (decide (i=0))=RES->
   I (.int .u8 most) (.bool false) (.pointer (some ⟨m,0,none⟩)) (.int .i64 st) (.int .i64 (M.now+n*st)) (.pointer (some ⟨xm,0,none⟩)) (.int .i64 0) (.bool false) (.int .i64 n) (.int .i64 i) S2) (fun i hi ih S2 o2 Mi F2 hX2 hI2' hT2 hN2 hR2=>?_) 0 (Nat.zero_le _) S1 o1 M .refl hX hI (by simp) (by simp;omega) (by simpa[pP]using hR)
  refine hI2 _ _ _ _ _ _ _ _ _ _ _ ?_;have hM2:=hM1.fd F2 (fun k hk=>C70 hk) hp19;have hb1:0<=(i:Int)*st:=Int.mul_nonneg (by omega) (by omega)
  have hb2:(i:Int)*st<=13*st:=Int.mul_le_mul_of_nonneg_right (by omega) (by omega)
  have hb3:((i:Int)+1)*st=i*st+st:=by rw[Int.add_mul,Int.one_mul]
  by_cases hlt:i<n
  ·try simp -implicitDefEqProofs (disch:=first|exact dsc|fail)[hlt]
   refine A06 hM2 ?_;obtain⟨x2,t2,f2,b2,mc2,sl2,hX2⟩:=hX2
   try simp -implicitDefEqProofs (disch:=first|exact dsc|fail)[hb3]
   refine A3p hX2 fun vk S3 xk gk hkl hkn hkb=>?_;have lk:=gk.in_.len (P:=P) A0c (s':=S3);have hX3:=hX2.old gk.old_;have F3:Fd S1 S3 o1 o2 (inC 19):=F2.trans gk.old_.fd;have hte:M.now+i*st+st=M.now+(i*st+st):=by omega
   rw[show 16-i=(15-i)+1 by omega,refL,if_neg (by rw[show(n:Int)*st=((n:Int)-i-1)*st+(i*st+st) by rw[<-hb3,<-Int.add_mul];congr 1;omega];have:=Int.mul_nonneg (show(0:Int)<=(n:Int)-i-1 by omega) (show 0<=st by omega);omega),F1m hI2' hN2.1 (by omega) (by omega),hte]at hR2
   by_cases g:most<(A45 Mi (M.now+(i*st+st)):Int)+1
   ·try simp -implicitDefEqProofs (disch:=first|exact dsc|fail)[lk,hkn,g,-B65]
    rw[if_pos g]at hR2;rw[<-hR2]at out;exact out S3 o2 _ F3
   ·rw[if_neg g]at hR2
    try simp -implicitDefEqProofs (disch:=first|exact dsc|fail)[lk,hkn,g]
    refine D17 (by omega) ?_
    try simp -implicitDefEqProofs (disch:=first|exact dsc|fail)[C8m]
    refine A9o hX3 ?_;have htopX:=hX3.top;have hwr:IntKind.u64.wrap (Mi.top+1)=Mi.top+1:=A65 (by omega) (by omega)
    try simp -implicitDefEqProofs (disch:=first|exact dsc|fail)[C8m,hwr]
    have hN:∀o:St,o=S3.alloc (.cells ((intE .u8).row (List.replicate 32 0)++[]) false)->(intE .u8).New S3 o (.slice (some ⟨S3.next,0,none⟩) 32 32) (List.replicate 32 0):=fun o e=>⟨some S3.next,by subst e;exact Enc.Own.row (E:=intE .u8) (xs:=List.replicate 32 0) (post:=[]) (tl:=false) (by simp) St.alloc_self (.inr (by decide)),by subst e;exact Old.alloc (.refl _),fun r hr=>by cases hr;omega⟩
    generalize hS:S3.alloc _=S4;have hN4:=hN S4 (by rw[<-hS];rfl)
    have f4:Fd S3 S4 o2 (tint o2 S3.next 0) (fun _=>False):=hN4.old_.tint
    have hIm:=hN4.im (o:=o2);generalize tint o2 S3.next 0=o4 at *
    have hX4:=hX3.fd f4 (fun _ h=>h.elim) id;have hpl:=G50 i;have b1:0<=Mi.top/\Mi.top<65535:=by omega
    have b2:Mi.now<=M.now+(i*st+st)/\M.now+(i*st+st)<=1073741824:=by omega
    have hfo:=B2v (t:=M.now+(i*st+st)) hI2' hN2.1 b1 b2 ⟨hpl.1,hpl.2.1⟩ ⟨hpl.2.2.1,hpl.2.2.2⟩;have hfi:=C71 (t:=M.now+(i*st+st)) hI2' hN2.1 b1 b2 ⟨hpl.1,hpl.2.1⟩ ⟨hpl.2.2.1,hpl.2.2.2⟩;rw[hfo,if_neg (by simp)]at hR2
    refine A70 (k:=A14 Mi (M.now+(i*st+st)) 0 (pl i).1 (pl i).2) ((K1.fd F3 hp19).fd f4 id) hX4 hIm.1 (fun S o' F=>(hIm.fd F hp19).1) fun S5 o5 f5 h5=>?_;rw[hfo]at h5 ⊢
    try simp -implicitDefEqProofs (disch:=first|exact dsc|fail)[]
    refine ih hlt S5 o5 _ ((F3.trans (f4.mono fun _ h=>h.elim)).trans f5) ⟨_,_,_,_,_,_,h5⟩ hfi (by show Mi.top+1=M.top+((i+1:Nat):Int);omega) ?_ ?_
    ·rw[Int.natCast_add,Int.natCast_one,hb3];exact⟨by show 0<=M.now+(i*st+st);omega,Int.le_refl _⟩
    ·rw[Int.natCast_add,Int.natCast_one,hb3,show 16-(i+1)=15-i by omega]
     simpa[pP]using hR2
  ·have:i=n:=by omega
   subst this;have e:RES=(0,false):=by
    rw[<-hR2,show 16-i=(15-i)+1 by omega,refL,if_pos (by omega)]
   try simp -implicitDefEqProofs (disch:=first|exact dsc|fail)[-B65]
   rw[e]at out;exact out S2 o2 _ F2
end Go.Zz
