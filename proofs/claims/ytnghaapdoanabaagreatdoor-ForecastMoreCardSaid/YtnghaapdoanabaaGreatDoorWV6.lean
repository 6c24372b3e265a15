import Derived.Test.YtnghaapdoanabaaGreatDoorWV5
set_option linter.all false
set_option maxRecDepth 20000
set_option linter.all false
namespace Go.Zz
open Go
noncomputable section
variable (C:cT)(K:kT)(Q:pT)(s0:St)(a b c d e f g h i j l m n o p q r t u v w x y z A B D E F G H J M N O R T U V W X Y Z a0 a1 a2 a3 a4 a5 a6 a7 a8 a9 b0 b1 b2 b3 b4 b5 b6 b7 b8 b9:vT)(s:St)
@[simp]def f5xS(C:cT)(Q:pT)(a b c d e f:vT)(s0:St):Prop:=(cf C 9 [a,b] fun g=>cf C 10 [] fun h=>bM h fun i=>wJf i g fun j=>wOf i (binV P .eql 25 j (.pointer none)) fun l=>bQ i l fun m=>cw m (cf C 10 [] fun n=>r1 Q s0 n) (bR 5 3 e fun o=>bC .rem 3 o 40 fun p=>bV .add 3 (.int .i64 1) p fun q=>bR 5 3 f fun r=>bC .rem 3 r 14 fun t=>cf C 13 [g] fun u=>bV .mul 3 t q fun v=>bV .add 3 u v fun w=>bR 5 3 c fun x=>cf C 18 [g,x,q,w] fun y=>bE y 0 fun z=>bE y 1 fun A=>bR 5 3 c fun B=>bR 5 3 d fun D=>bV .add 3 B D fun E=>cf C 18 [g,E,q,w] fun F=>bE F 0 fun G=>bE F 1 fun H=>bR 5 3 c fun J=>bV .mul 3 (.int .i64 2) q fun M=>bV .add 3 w M fun N=>cf C 18 [g,J,q,N] fun O=>bE O 0 fun R=>bE O 1 fun T=>wJt H A fun U=>wOt H (unV .not U) fun V=>wJt H V fun W=>wJf W G fun X=>wJf W z fun Y=>wVf W .lss 3 X Y fun Z=>wOt H (A6r W (.bool true) Z) fun a0=>bP H a0 fun a1=>wJf a1 A fun a2=>wJf a1 a2 fun a3=>wJt a3 T fun a4=>wOt a3 (unV .not a4) fun a5=>wJt a3 a5 fun a6=>wJf a6 R fun a7=>wJf a6 z fun a8=>wVf a6 .neq 3 a7 a8 fun a9=>wOt a3 (A6r a6 (.bool true) a9) fun b0=>wOf a1 (A6r a3 b0 (.bool false)) fun b1=>bQ a1 b1 fun b2=>wJf b2 A fun b3=>wOf b2 (unV .not b3) fun b4=>wJf b2 b4 fun b5=>wJt b5 T fun b6=>wOf b2 (A6r b5 b6 (.bool false)) fun b7=>wJf b2 b7 fun b8=>wJt b8 R fun b9=>wJt b8 w fun c0=>wVt b8 .leq 3 b9 c0 fun c1=>wOf b2 (A6r b8 c1 (.bool false)) fun c2=>bQ b2 c2 fun c3=>cw c3 (r1 Q s0 (.bool false)) (bM A fun c4=>wJf c4 z fun c5=>wJf c4 g fun c6=>wf c4 (fun k s=>A0u P C (fv 13) [c6] k s) fun c7=>wVf c4 .gtr 3 c5 c7 fun c8=>wJf c4 c8 fun c9=>wJt c9 z fun d0=>wJt c9 w fun d1=>wVt c9 .leq 3 d0 d1 fun d2=>wOf c4 (A6r c9 d2 (.bool false)) fun d3=>wJf c4 d3 fun d4=>wJt d4 z fun d5=>wJt d4 g fun d6=>wt d4 (fun k s=>A0u P C (fv 13) [d6] k s) fun d7=>wVt d4 .sub 3 d5 d7 fun d8=>wJt d4 q fun d9=>wVt d4 .rem 3 d8 d9 fun e0=>wCt d4 .eql 3 e0 0 fun e1=>wOf c4 (A6r d4 e1 (.bool false)) fun e2=>bQ c4 e2 fun e3=>r1 Q s0 e3))) s0
def f5xin:=en6 5 f5xS
end
variable {X : Y0}
section
variable {most most' every upto upto' : Int}
theorem B8h(he:1<=every):∀{r:Nat} {M:A02} {min:Int} {p:Int×Int} {first:Bool},(refL most every upto r M min p first).2=true->
  min+every<=(refL most every upto r M min p first).1/\(refL most every upto r M min p first).1<=upto/\((refL most every upto r M min p first).1-min)%every=0
 | 0,M,min,p,first=>fun h=>by simp[refL]at h
 | r+1,M,min,p,first=>by
  rw[refL];split
  ·intro h;simp at h
  ·split
   ·intro _;refine⟨Int.le_refl _,by show min+every<=upto;omega,?_⟩
    show(min+every-min)%every=0;rw[show min+every-min=every by omega,Int.emod_self]
   ·split
    ·intro h;simp at h
    ·intro h;obtain⟨h1,h2,h3⟩:=B8h he h;refine⟨by omega,h2,?_⟩
     generalize (refL most every upto r _ _ _ _).1=z at *;rw[show z-min=(z-(min+every))+every by omega,Int.add_emod_right]
     exact h3
theorem C2l(he:1<=every)(hm:most<=most'):∀{r:Nat} {M:A02} {min:Int} {p:Int×Int} {first:Bool},(refL most' every upto r M min p first).2=true->
  (refL most every upto r M min p first).2=true/\(refL most every upto r M min p first).1<=(refL most' every upto r M min p first).1
 | 0,M,min,p,first=>fun h=>by simp[refL]at h
 | r+1,M,min,p,first=>by
  intro h;have hat:=B8h he h;rw[refL]at h hat ⊢;rw[refL];by_cases h1:upto<min\/upto-min<every
  ·rw[if_pos h1]at h;simp at h
  ·rw[if_neg h1]at h hat ⊢;rw[if_neg h1];by_cases h2:most<A45 M (min+every)+1
   ·rw[if_pos h2];exact⟨rfl,hat.1⟩
   ·have h3:¬most'<A45 M (min+every)+1:=by omega
    rw[if_neg h2];rw[if_neg h3]at h ⊢;by_cases h4:(A16 M (A14 M (min+every) 0 (B26 M (min+every) p first).1 (B26 M (min+every) p first).2)).1≠0
    ·rw[if_pos h4]at h;simp at h
    ·rw[if_neg h4]at h ⊢;rw[if_neg h4];exact C2l he hm h
theorem C2n(hu:upto<=upto'):∀{r:Nat} {M:A02} {min:Int} {p:Int×Int} {first:Bool},(refL most every upto r M min p first).2=true->
  refL most every upto' r M min p first=refL most every upto r M min p first
 | 0,M,min,p,first=>fun h=>by simp[refL]at h
 | r+1,M,min,p,first=>by
  intro h;rw[refL]at h ⊢;rw[refL];by_cases h1:upto<min\/upto-min<every
  ·rw[if_pos h1]at h;simp at h
  ·have h1':¬(upto'<min\/upto'-min<every):=by omega
   rw[if_neg h1]at h ⊢;rw[if_neg h1'];split
   ·rfl
   ·rename_i h2;rw[if_neg h2]at h;split
    ·rfl
    ·rename_i h3;rw[if_neg h3]at h;exact C2n hu h
theorem B7v(he:1<=every):∀{r:Nat} {M:A02} {min:Int} {p:Int×Int} {first:Bool},(refL most every upto r M min p first).2=false->(refL most every upto' r M min p first).2=true->
  upto<(refL most every upto' r M min p first).1
 | 0,M,min,p,first=>fun _ h=>by simp[refL]at h
 | r+1,M,min,p,first=>by
  intro h g;have hat:=B8h he g;rw[refL]at h g hat ⊢;by_cases h1:upto<min\/upto-min<every
  ·obtain⟨h5,_⟩:=hat;refine Int.lt_of_lt_of_le ?_ h5;omega
  ·rw[if_neg h1]at h;by_cases h1':upto'<min\/upto'-min<every
   ·rw[if_pos h1']at g;simp at g
   ·rw[if_neg h1']at g ⊢;by_cases h2:most<A45 M (min+every)+1
    ·rw[if_pos h2]at h;simp at h
    ·rw[if_neg h2]at h g ⊢;by_cases h4:(A16 M (A14 M (min+every) 0 (B26 M (min+every) p first).1 (B26 M (min+every) p first).2)).1≠0
     ·rw[if_pos h4]at g;simp at g
     ·rw[if_neg h4]at h g ⊢;exact B7v he h g
end
theorem More_spec{s:St}{Q:Post}{v w:Value}{rs:List RuleM}{l:List StepM}{most more every many:Int}(hm:0<=most/\most<256)(hm2:0<=more/\more<256)(he:0<=every/\every<256)(hn:0<=many/\many<256)(hK:A2z s (fun _=>0))(hv:A3m.In s v rs)(hw:A3x.In s w l)(ha:∀x∈l,0<=x.a)
  (hq:Q (.bool true) s):CC X 5 [v,w,.int .u8 most,.int .u8 more,.int .u8 every,.int .u8 many] Q s:=by
 have hp0:¬inC 1 0:=by unfold inC;omega
 refine f5xin rfl ?_
 try simp -implicitDefEqProofs (disch:=first|exact dsc|fail)[]
 refine A77 1 (by decide) hK hv (fun S o' F=>hw.old (F.back hp0)) ha ?_ (fun m M S o' F hM hI ht hnow hK'=>?_)
 ·try simp -implicitDefEqProofs (disch:=first|exact dsc|fail)[]
  refine A1h hK ?_
  try simp -implicitDefEqProofs (disch:=first|exact dsc|fail)[A6j]
  refine A1h hK ?_
  try simp -implicitDefEqProofs (disch:=first|exact dsc|fail)[]
  exact hq
 ·obtain⟨x,t,f,b,mc,sl,hM⟩:=hM;have oB:=F.back hp0;have hnow:=hM.now;have hmod:0<=every%40/\every%40<40:=⟨Int.emod_nonneg _ (by decide),Int.emod_lt_of_pos _ (by decide)⟩
  have hmod2:0<=many%14/\many%14<14:=⟨Int.emod_nonneg _ (by decide),Int.emod_lt_of_pos _ (by decide)⟩
  try simp -implicitDefEqProofs (disch:=first|exact dsc|fail)[]
  refine A1h hK' ?_
  try simp -implicitDefEqProofs (disch:=first|exact dsc|fail)[A0j A0f]
  have hpr1:0<=many%14*(1+every%40):=Int.mul_nonneg hmod2.1 (by omega)
  have hpr2:many%14*(1+every%40)<=13*(1+every%40):=Int.mul_le_mul_of_nonneg_right (by omega) (by omega)
  have hst:1<=1+every%40/\1+every%40<=40:=by omega
  generalize 1+every%40=st at *;generalize many%14=nn at *;refine A06 hM ?_
  try simp -implicitDefEqProofs (disch:=first|exact dsc|fail)[]
  generalize nn*st=pr at *;have A1:=@B8h most st (M.now+pr) hst.1 16 M M.now (0,0) true;have A2:=@C2l most (most+more) st (M.now+pr) hst.1 (by omega) 16 M M.now (0,0) true
  have A3:=@C2n most st (M.now+pr) (M.now+pr+2*st) (by omega) 16 M M.now (0,0) true
  have A4:=@B7v most st (M.now+pr) (M.now+pr+2*st) hst.1 16 M M.now (0,0) true;refine A2d (c2:=7) (r:=16) (by decide) hK' hM hI (by omega) (by omega) (by omega) fun S3 o3 F3=>?_
  have h3:=hM.fd F3 (fun k hk=>B44 hk) C2s;have K3:=hK'.fd F3 C2s
  try simp -implicitDefEqProofs (disch:=first|exact dsc|fail)[]
  refine A2d (c2:=7) (r:=16) (by decide) K3 h3 hI (by omega) (by omega) (by omega) fun S4 o4 F4=>?_
  have h4:=h3.fd F4 (fun k hk=>B44 hk) C2s;have K4:=K3.fd F4 C2s
  try simp -implicitDefEqProofs (disch:=first|exact dsc|fail)[]
  refine A2d (c2:=7) (r:=16) (by decide) K4 h4 hI (by omega) (by omega) (by omega) fun S5 o5 F5=>?_
  have h5:=h4.fd F5 (fun k hk=>B44 hk) C2s;have FA:Fd s S5 (fun _=>0) o5 (fun k=>k≠0):=(((F.mono fun _=>D4j).trans (F3.mono fun _=>B62)).trans (F4.mono fun _=>B62)).trans (F5.mono fun _=>B62);have oE:=FA.back (fun h=>h rfl);generalize refL most st (M.now+pr) 16 M M.now (0,0) true=RA at *;generalize refL (most+more) st (M.now+pr) 16 M M.now (0,0) true=RB at *;generalize refL most st (M.now+pr+2*st) 16 M M.now (0,0) true=RC at *;obtain⟨a,ok⟩:=RA;obtain⟨b,is⟩:=RB;obtain⟨c,so⟩:=RC;have fin:∀S:St,Old s S->kEnd Q s (some (.bool true)) S:=fun S oS=>A0b oS (.bool _) hq;rcases ok with _|_
  ·have e:is=false:=by
    rcases is with _|_
    ·rfl
    ·exact absurd (A2 rfl).1 (by simp)
   subst e;rcases so with _|_
   ·try simp -implicitDefEqProofs (disch:=first|exact dsc|fail)[]
    exact fin _ oE
   ·have hc:¬c<=M.now+pr:=by have:M.now+pr<c:=A4 rfl rfl;omega
    try simp -implicitDefEqProofs (disch:=first|exact dsc|fail)[hc]
    exact fin _ oE
  ·have e:=A3 rfl;obtain⟨rfl,rfl⟩:c=a/\so=true:=by simpa using e
   obtain⟨a1,a2,a3⟩:=A1 rfl;simp only at a1 a2 a3;have a4:M.now<c:=by omega
   rcases is with _|_
   ·try simp -implicitDefEqProofs (disch:=first|exact dsc|fail)[a4,a2,a3]
    refine A06 h5 ?_
    try simp -implicitDefEqProofs (disch:=first|exact dsc|fail)[a4,a2,a3]
    refine A06 h5 ?_
    try simp -implicitDefEqProofs (disch:=first|exact dsc|fail)[a4,a2,a3]
    exact fin _ oE
   ·have hb:¬b<c:=by have:c<=b:=(A2 rfl).2;omega
    try simp -implicitDefEqProofs (disch:=first|exact dsc|fail)[a4,a2,a3,hb]
    refine A06 h5 ?_
    try simp -implicitDefEqProofs (disch:=first|exact dsc|fail)[a4,a2,a3,hb]
    refine A06 h5 ?_
    try simp -implicitDefEqProofs (disch:=first|exact dsc|fail)[a4,a2,a3]
    exact fin _ oE
end Go.Zz
