import Derived.Test.YtnghaapdoanabaaGreatDoorWM
set_option linter.all false
set_option maxRecDepth 20000
set_option linter.all false
namespace Go.Zz
open Go
variable {X : Y0}
def spLo:A0t:=⟨-9223372036854775808,-9223372036854775808,-9223372036854775808,0⟩
def spHi:A0t:=⟨9223372036854775807,9223372036854775807,9223372036854775807,18446744073709551615⟩
theorem E5x{k:A0t}(h:spOk k):ord spHi k=1:=by
 have h1:cmp3 spHi.br k.br=1:=by unfold cmp3 spHi;simp only;have:=h;unfold spOk at this;split<;>(try split)<;>omega
 unfold ord;rw[h1];simp
theorem G61{k:A0t}(h:spOk k):ord spLo k=-1:=by
 have h1:cmp3 spLo.br k.br=-1:=by unfold cmp3 spLo;simp only;have:=h;unfold spOk at this;split<;>(try split)<;>omega
 unfold ord;rw[h1];simp
theorem E9p{k:A0t}(h:spOk k):ord k spLo=1:=by
 have h1:cmp3 k.br spLo.br=1:=by unfold cmp3 spLo;simp only;have:=h;unfold spOk at this;split<;>(try split)<;>omega
 unfold ord;rw[h1];simp
theorem C2m{α:Type}{l:List α}{i:Nat}(h:i<l.length):l=l.take i++l[i]::l.drop (i+1):=by rw[<-List.drop_eq_getElem_cons h,List.take_append_drop]
structure WkB(S:St)(y tb fb yb wb:Nat):Prop where
 t:S.heap tb=some (.cells (A0s.cells spHi) false)
 f:S.heap fb=some (.cells (A0s.cells spLo) false)
 y:S.heap yb=some (.cells [.func (.yield y) #[] #[]] false)
 w:S.heap wb=some (.cells [.func (.func 183) #[] #[.pointer (some ⟨tb,0,none⟩),.pointer (some ⟨fb,0,none⟩),.pointer (some ⟨yb,0,none⟩),.pointer (some ⟨wb,0,none⟩)]] false)
 l:tb<S.next/\fb<S.next/\yb<S.next/\wb<S.next
theorem WkB.old{S S':St}{y tb fb yb wb:Nat}(h:WkB S y tb fb yb wb)(o:Old S S'):WkB S' y tb fb yb wb:=
 ⟨(o.eq h.l.1).trans h.t,(o.eq h.l.2.1).trans h.f,(o.eq h.l.2.2.1).trans h.y,(o.eq h.l.2.2.2).trans h.w,Nat.lt_of_lt_of_le h.l.1 o.le,Nat.lt_of_lt_of_le h.l.2.1 o.le,Nat.lt_of_lt_of_le h.l.2.2.1 o.le,Nat.lt_of_lt_of_le h.l.2.2.2 o.le⟩
section
variable {s1 : St} {o : Nat → Nat} {y n0 tb fb yb wb : Nat} {L : List A0t} {J : Nat → (Nat → Prop) → St → Prop}
theorem B54(hF:∀i M S,J i M S->Fd s1 S o o (·≠0))(hB:∀i M S,J i M S->WkB S y tb fb yb wb)(hO:∀i M S S',J i M S->Old S S'->J i M S')
  (hr:∀pre x post,L=pre++x::post->B6u (CC X) y n0 [A5b x,.int .u64 x.num] (J pre.length) (J (pre.length+1)) (fun _ _=>False)) :
  ∀{h n:Nat} {t:NT h} {pre post:List A0t} {M:Nat->Prop} {S:St} {Q:Post},A1w s1 o h n t->OkN spOk h t->L=pre++(A88 h t++post)->J pre.length M S->
   (∀M S',J (pre.length+(A88 h t).length) M S'->Q (.bool true) S')->CC X 183 [.pointer (some ⟨n,0,none⟩),.pointer (some ⟨tb,0,none⟩),.pointer (some ⟨fb,0,none⟩),.pointer (some ⟨yb,0,none⟩),.pointer (some ⟨wb,0,none⟩)] Q S
 | 0,n,t,pre,post,M,S,Q,hN,ho,hLe,hJ,hq=>by
  obtain⟨kv,vv,g1,g2,g3,g4⟩:=hN;have hl3:=fun S=>g3.1.len (P:=P) (s':=S) A0i;have h4l:=ho.1;have hn1:∀{i M S},J i M S->Blk S n [kv,vv,.slice none 0 0]/\Im A0s S o kv (A0m t)/\Im (intE .u64) S o vv ((A0m t).map (·.num)):=fun hJ=>
   ⟨g1.fd (hF _ _ _ hJ) (by rw[g2];simp),g3.fd (hF _ _ _ hJ) (by simp),g4.fd (hF _ _ _ hJ) (by simp)⟩
  have hLe':L=pre++(A0m t++post):=hLe;have hq':∀M S',J (pre.length+(A0m t).length) M S'->Q (.bool true) S':=hq;refine D42 rfl ?_;obtain⟨p1,p2,p3⟩:=hn1 hJ
  try simp -implicitDefEqProofs (disch:=first|exact dsc|fail)[p1.eq,hl3]
  refine B76 fun I hI=>?_;refine up (n:=(A0m t).length) (M:=fun i=>∀M S,J (pre.length+i) M S->I (.pointer (some ⟨n,0,none⟩)) (.pointer (some ⟨tb,0,none⟩)) (.pointer (some ⟨fb,0,none⟩)) (.pointer (some ⟨yb,0,none⟩)) (.pointer (some ⟨wb,0,none⟩)) (.bool false) kv (.int .i64 (A0m t).length) (.int .i64 i) S) (fun i hi ih M S hJ=>?_) 0 (Nat.zero_le _) M S hJ;refine hI _ _ _ _ _ _ _ _ _ _ ?_;by_cases hlt:i<(A0m t).length
  ·obtain⟨q1,q2,q3⟩:=hn1 hJ;have hw:=hB _ _ _ hJ;have hok:=ho.2 _ (List.getElem_mem hlt);have o1:Old S (S.alloc (.cells (A0s.cells (A0m t)[i]) false)):=by simp
   have b1:(S.alloc (.cells (A0s.cells (A0m t)[i]) false)).heap S.next=some (.cells (A0s.cells (A0m t)[i]) false):=St.alloc_self
   have hJ1:=hO _ _ _ _ hJ o1;simp only[A1p]at o1 b1 hJ1;have nx:S.next<(S.alloc (.cells [.int .i64 (A0m t)[i].br,.int .i64 (A0m t)[i].vol,.int .i64 (A0m t)[i].blk,.int .u64 (A0m t)[i].num] false)).next:=by simp
   have w1:=hw.old o1;have hlk:=hn1 hJ1
   try simp -implicitDefEqProofs (disch:=first|exact dsc|fail)[hlt,q2.1.idx,q2.1.agg]
   generalize hs2:S.alloc (.cells [.int .i64 (A0m t)[i].br,.int .i64 (A0m t)[i].vol,.int .i64 (A0m t)[i].blk,.int .u64 (A0m t)[i].num] false)=S1 at *;have wt:=w1.t;have wf:=w1.f;have wy:=w1.y;have ww:=w1.w;simp only[A1p]at wt wf;obtain⟨r1,r2,r3⟩:=hlk;have hi2:i<((A0m t).map (·.num)).length:=by simpa using hlt
   have hg:=r3.1.one (n:=1) hi2;simp only[A9l,List.getElem_map]at hg;have hgg:A04 (some (false,1)) (A7p vv i) S1=some (.int .u64 (A0m t)[i].num):=hg
   try simp -implicitDefEqProofs (disch:=first|exact dsc|fail)[wt,b1]
   refine A8a (a:=spHi) ?_;have e1:¬ord spHi (A0m t)[i]<0:=by rw[E5x hok];decide
   try simp -implicitDefEqProofs (disch:=first|exact dsc|fail)[e1]
   refine A1n (t:=t) (o:=o) (p:=spOk) ⟨kv,vv,r1,g2,r2,r3⟩ ho ?_
   try simp -implicitDefEqProofs (disch:=first|exact dsc|fail)[wf,b1]
   refine A8a (b:=spLo) ?_;have e2:¬ord (A0m t)[i] spLo<0:=by rw[E9p hok];decide
   try simp -implicitDefEqProofs (disch:=first|exact dsc|fail)[e2,wy,b1,r1.eq,r3.1.idx,hlt,hgg]
   have hlen:(pre++(A0m t).take i).length=pre.length+i:=by simp;omega
   have hri:=hr (pre++(A0m t).take i) (A0m t)[i] ((A0m t).drop (i+1)++post) (by
    rw[hLe',List.append_assoc,<-List.cons_append,<-List.append_assoc ((A0m t).take i),<-C2m hlt])
   rw[hlen]at hri;refine⟨rfl,rfl,hri M S1 _ hJ1 (fun M' S3 hJ3 hK=>?_) (fun M' S3 hD _=>hD.elim)⟩
   try simp -implicitDefEqProofs (disch:=first|exact dsc|fail)[]
   exact ih hlt M' S3 hJ3
  ·have hie:i=(A0m t).length:=by omega
   subst hie
   try simp -implicitDefEqProofs (disch:=first|exact dsc|fail)[]
   exact A0a (hq' M S hJ)
 | h+1,n,t,pre,post,M,S,Q,hN,ho,hLe,hJ,hq=>by
  obtain⟨kv,dv,ps,g1,g2,g3,g4,g5⟩:=hN.kids;have hl3:=fun S=>g3.1.len (P:=P) (s':=S) A0i;have hkl:(A0y (h+1) t).length=(kids t).length:=by rw[A4a];rfl
  obtain⟨k1,k2,k3⟩:=id ho;have hps:=g5.1;have hn1:∀{i M S},J i M S->A1w S o (h+1) n t/\Blk S n [kv,.slice none 0 0,dv]/\Im A0s S o kv (A0y (h+1) t)/\Im ptrE S o dv ps:=fun hJ=>
   ⟨hN.fd (hF _ _ _ hJ) (by simp),g1.fd (hF _ _ _ hJ) (by rw[g2];simp),g3.fd (hF _ _ _ hJ) (by simp),g4.fd (hF _ _ _ hJ) (by simp)⟩
  have hLe':L=pre++((kids t).flatMap (A88 h)++post):=hLe;have hq':∀M S',J (pre.length+((kids t).flatMap (A88 h)).length) M S'->Q (.bool true) S':=hq;refine D42 rfl ?_;obtain⟨p0,p1,p2,p3⟩:=hn1 hJ
  try simp -implicitDefEqProofs (disch:=first|exact dsc|fail)[p1.eq,hl3,hkl]
  refine B76 fun I hI=>?_;refine up (n:=(kids t).length) (M:=fun i=>∀M S,J (pre.length+(((kids t).take i).flatMap (A88 h)).length) M S->I (.pointer (some ⟨n,0,none⟩)) (.pointer (some ⟨tb,0,none⟩)) (.pointer (some ⟨fb,0,none⟩)) (.pointer (some ⟨yb,0,none⟩)) (.pointer (some ⟨wb,0,none⟩)) (.bool false) kv (.int .i64 (kids t).length) (.int .i64 i) S) (fun i hi ih M S hJ=>?_) 0 (Nat.zero_le _) M S (by simpa using hJ)
  refine hI _ _ _ _ _ _ _ _ _ _ ?_;by_cases hlt:i<(kids t).length
  ·obtain⟨q0,q1,q2,q3⟩:=hn1 hJ;have hlt':i<(A0y (h+1) t).length:=by omega
   have hip:i<ps.length:=by omega
   have hkeys:∀x∈A0y (h+1) t,spOk x:=OkN.keys G8g ho;have hok:=hkeys _ (List.getElem_mem hlt');have hw:=hB _ _ _ hJ;have o1:Old S (S.alloc (.cells (A0s.cells (A0y (h+1) t)[i]) false)):=by simp
   have b1:(S.alloc (.cells (A0s.cells (A0y (h+1) t)[i]) false)).heap S.next=some (.cells (A0s.cells (A0y (h+1) t)[i]) false):=St.alloc_self
   have hJ1:=hO _ _ _ _ hJ o1;simp only[A1p]at o1 b1 hJ1;have nx:S.next<(S.alloc (.cells [.int .i64 (A0y (h+1) t)[i].br,.int .i64 (A0y (h+1) t)[i].vol,.int .i64 (A0y (h+1) t)[i].blk,.int .u64 (A0y (h+1) t)[i].num] false)).next:=by simp
   have w1:=hw.old o1;have hlk:=hn1 hJ1
   try simp -implicitDefEqProofs (disch:=first|exact dsc|fail)[hlt,q2.1.idx,q2.1.agg,hlt']
   generalize hs2:S.alloc (.cells [.int .i64 (A0y (h+1) t)[i].br,.int .i64 (A0y (h+1) t)[i].vol,.int .i64 (A0y (h+1) t)[i].blk,.int .u64 (A0y (h+1) t)[i].num] false)=S1 at *;have wt:=w1.t;have wf:=w1.f;have wy:=w1.y;have ww:=w1.w;simp only[A1p]at wt wf;obtain⟨r0,r1,r2,r3⟩:=hlk
   try simp -implicitDefEqProofs (disch:=first|exact dsc|fail)[wt,b1]
   refine A8a (a:=spHi) ?_;have e1:¬ord spHi (A0y (h+1) t)[i]<0:=by rw[E5x hok];decide
   try simp -implicitDefEqProofs (disch:=first|exact dsc|fail)[e1]
   refine A1n r0 ho ?_;have x1:=g5.2 i hip hlt;have e3:L=(pre++((kids t).take i).flatMap (A88 h))++(A88 h (kids t)[i]++(((kids t).drop (i+1)).flatMap (A88 h)++post)):=by
    rw[hLe']
    conv=>lhs;arg 2;arg 1;rw[C2m hlt,List.flatMap_append,List.flatMap_cons]
    simp only[List.append_assoc]
   have e4:(pre++((kids t).take i).flatMap (A88 h)).length=pre.length+(((kids t).take i).flatMap (A88 h)).length:=List.length_append;have e5:pre.length+(((kids t).take i).flatMap (A88 h)).length+(A88 h (kids t)[i]).length=pre.length+(((kids t).take (i+1)).flatMap (A88 h)).length:=by
    rw[A2w hlt,List.flatMap_append];simp[Nat.add_assoc]
   have hJ2:=hJ1;rw[<-e4]at hJ2;have ihw:=ih hlt;by_cases hnx:i+1<(A0y (h+1) t).length
   ·have hnxi:(i:Int)+1<(kids t).length:=by omega
    have hnxk:(i:Int)+1<(A0y (h+1) t).length:=by omega
    have ei:((i:Int)+1).toNat=i+1:=by omega
    have hagg:=r2.1.agg (i:=i+1) hnx;simp only[A1p]at hagg
    try simp -implicitDefEqProofs (disch:=first|exact dsc|fail)[r1.eq,hl3,hkl,hnxi,wf,r2.1.idx,hnxk,ei,hagg]
    refine A8a (a:=spLo) ?_;have e6:ord spLo (A0y (h+1) t)[i+1]<0:=by rw[G61 (hkeys _ (List.getElem_mem hnx))];decide
    try simp -implicitDefEqProofs (disch:=first|exact dsc|fail)[e6,ww,r1.eq,r3.1.idx,r3.1.one,hip]
    refine B54 hF hB hO hr x1 (k3 _ (List.getElem_mem hlt)) e3 hJ2 fun M' S3 hJ3=>?_
    try simp -implicitDefEqProofs (disch:=first|exact dsc|fail)[]
    rw[e4,e5]at hJ3;exact ihw M' S3 hJ3
   ·have hnxi:¬(i:Int)+1<(kids t).length:=by omega
    try simp -implicitDefEqProofs (disch:=first|exact dsc|fail)[r1.eq,hl3,hkl,hnxi,wf,ww,r3.1.idx,r3.1.one,hip]
    refine B54 hF hB hO hr x1 (k3 _ (List.getElem_mem hlt)) e3 hJ2 fun M' S3 hJ3=>?_
    try simp -implicitDefEqProofs (disch:=first|exact dsc|fail)[]
    rw[e4,e5]at hJ3;exact ihw M' S3 hJ3
  ·have hie:i=(kids t).length:=by omega
   subst hie;rw[List.take_length]at hJ
   try simp -implicitDefEqProofs (disch:=first|exact dsc|fail)[]
   exact A0a (hq' M S hJ)
def A78(T:Option AN):List A0t:=match T with
 | none=>[]
 | some a=>A88 a.1 a.2
theorem C5i{b1 b2 b3 t:Nat}{T:Option AN}{s:St}{M0:Nat->Prop}{Q:Post}(hT:A6u s o t T)(hok:TOkT spOk T)(h1:Blk s b1 (A0s.cells spHi))(h2:Blk s b2 (A0s.cells spLo))(h3:Blk s b3 [.pointer (some ⟨t,0,none⟩)])(c1:o b1=0)(c2:o b2=0)(hn0:n0<=s.next)
  (hF:∀i M S,J i M S->Fd s S o o (·≠0)) (hM:∀i M S,J i M S->∀b,M b->b<S.next) (hO:∀i M S S',J i M S->Old S S'->J i M S')
  (hr:∀pre x post,A78 T=pre++x::post->B6u (CC X) y n0 [A5b x,.int .u64 x.num] (J pre.length) (J (pre.length+1)) (fun _ _=>False)) (h0:J 0 M0 s) (hq:∀M S,J (A78 T).length M S->Q (.tuple #[]) S) :
  CC X 182 [.func (.yield y) #[] #[],.pointer (some ⟨b1,0,none⟩),.pointer (some ⟨b2,0,none⟩),.pointer (some ⟨b3,0,none⟩)] Q s:=by
 have hlt3:=h3.lt;refine F5s rfl ?_
 try simp -implicitDefEqProofs (disch:=first|exact dsc|fail)[mkFn,Value.oneCell',h3.eq]
 have o1:Old s ((s.alloc (.cells [.func (.yield y) #[] #[]] false)).alloc (.cells [.func (.func 183) #[] #[.pointer (some ⟨b1,0,none⟩),.pointer (some ⟨b2,0,none⟩),.pointer (some ⟨s.next,0,none⟩),.pointer (some ⟨s.next+1,0,none⟩)]] false)):=by simp
 have by_:((s.alloc (.cells [.func (.yield y) #[] #[]] false)).alloc (.cells [.func (.func 183) #[] #[.pointer (some ⟨b1,0,none⟩),.pointer (some ⟨b2,0,none⟩),.pointer (some ⟨s.next,0,none⟩),.pointer (some ⟨s.next+1,0,none⟩)]] false)).heap s.next=some (.cells [.func (.yield y) #[] #[]] false):=(St.alloc_old (by simp)).trans St.alloc_self
 have bw:((s.alloc (.cells [.func (.yield y) #[] #[]] false)).alloc (.cells [.func (.func 183) #[] #[.pointer (some ⟨b1,0,none⟩),.pointer (some ⟨b2,0,none⟩),.pointer (some ⟨s.next,0,none⟩),.pointer (some ⟨s.next+1,0,none⟩)]] false)).heap (s.next+1)=some (.cells [.func (.func 183) #[] #[.pointer (some ⟨b1,0,none⟩),.pointer (some ⟨b2,0,none⟩),.pointer (some ⟨s.next,0,none⟩),.pointer (some ⟨s.next+1,0,none⟩)]] false):=St.alloc_at (by simp)
 have n1:((s.alloc (.cells [.func (.yield y) #[] #[]] false)).alloc (.cells [.func (.func 183) #[] #[.pointer (some ⟨b1,0,none⟩),.pointer (some ⟨b2,0,none⟩),.pointer (some ⟨s.next,0,none⟩),.pointer (some ⟨s.next+1,0,none⟩)]] false)).next=s.next+1+1:=by simp
 generalize hs1:(s.alloc (.cells [.func (.yield y) #[] #[]] false)).alloc (.cells [.func (.func 183) #[] #[.pointer (some ⟨b1,0,none⟩),.pointer (some ⟨b2,0,none⟩),.pointer (some ⟨s.next,0,none⟩),.pointer (some ⟨s.next+1,0,none⟩)]] false)=s1 at *
 obtain⟨r,i,g1,g2,g3⟩:=hT;refine C7z (g1.old o1) ?_;have J0:=hO _ _ _ _ h0 o1;cases T with
 | none=>
  rw[show r=.pointer none from g3]
  have e:=B0a (P:=P) A0g;have e:binV P .neq 199 (.pointer none) (.pointer none)=some (.bool false):=by simp[binV,eqOp]
  try simp -implicitDefEqProofs (disch:=first|exact dsc|fail)[e]
  exact A0a (hq M0 s1 J0)
 | some a=>
  obtain⟨n,rfl,hn⟩:=g3
  try simp -implicitDefEqProofs (disch:=first|exact dsc|fail)[B2w A0g,bw]
  refine B54 (n0:=n0) (y:=y) (tb:=b1) (fb:=b2) (yb:=s.next) (wb:=s.next+1) (L:=A88 a.1 a.2) (s1:=s) (o:=o) (pre:=[]) (post:=[]) (M:=M0)
   (J:=fun i M S=>J i M S/\(¬M s.next/\¬M (s.next+1))/\s.next+1<S.next/\S.heap s.next=some (.cells [.func (.yield y) #[] #[]] false)/\S.heap (s.next+1)=some (.cells [.func (.func 183) #[] #[.pointer (some ⟨b1,0,none⟩),.pointer (some ⟨b2,0,none⟩),.pointer (some ⟨s.next,0,none⟩),.pointer (some ⟨s.next+1,0,none⟩)]] false))
   (fun i M S hJ=>hF i M S hJ.1) (fun i M S hJ=>?_) (fun i M S S' hJ o2=>?_) (fun pre x post he=>?_) hn (hok a rfl) (by simp) ⟨J0,⟨fun h=>by have:=hM _ _ _ h0 _ h;omega,fun h=>by have:=hM _ _ _ h0 _ h;omega⟩,by omega,by_,bw⟩ (fun M S' hJ=>?_)
  ·obtain⟨k1,k2,k3,k4,k5⟩:=hJ;have hf:=hF _ _ _ k1;exact⟨(hf.chg.eq h1.lt (by rw[c1];simp)).trans h1.eq,(hf.chg.eq h2.lt (by rw[c2];simp)).trans h2.eq,k4,k5,by have:=h1.lt;omega,by have:=h2.lt;omega,by omega,by omega⟩
  ·obtain⟨k1,k2,k3,k4,k5⟩:=hJ;exact⟨hO _ _ _ _ k1 o2,k2,by have:=o2.le;omega,(o2.eq (by omega)).trans k4,(o2.eq (by omega)).trans k5⟩
  ·intro M S Q2 hJ hgo hret;obtain⟨k1,k2,k3,k4,k5⟩:=hJ;refine hr pre x post he M S Q2 k1 (fun M' S' hJ' hK=>hgo M' S' ⟨hJ',⟨fun h=>?_,fun h=>?_⟩,by have:=hK.le;omega,?_,?_⟩ hK) (fun M' S' hD _=>hD.elim)
   ·exact(hK.own _ h).elim k2.1 (fun e=>by omega)
   ·exact(hK.own _ h).elim k2.2 (fun e=>by omega)
   ·exact(hK.eq _ hn0 (by omega) k2.1).trans k4
   ·exact(hK.eq _ (by omega) (by omega) k2.2).trans k5
  ·try simp -implicitDefEqProofs (disch:=first|exact dsc|fail)[]
   refine A0a (hq M S' ?_);have:=hJ.1;simpa[A78]using this
theorem C9t{bx t:Nat}{T:Option AN}{s:St}{M0:Nat->Prop}{Q:Post}(hT:A6u s o t T)(hok:TOkT spOk T)(hx:Blk s bx [.pointer (some ⟨t,0,none⟩)])(hn0:n0<=s.next)
  (hF:∀i M S,J i M S->Fd s S o o (·≠0)) (hL:∀i,B14 n0 (J i))
  (hr:∀pre x post,A78 T=pre++x::post->B6u (CC X) y n0 [A5b x] (J pre.length) (J (pre.length+1)) (fun _ _=>False)) (h0:J 0 M0 s) (hq:∀M S,J (A78 T).length M S->Q (.tuple #[]) S) :
  CC X 159 [.func (.yield y) #[] #[],.pointer (some ⟨bx,0,none⟩)] Q s:=by
 have hltx:=hx.lt;refine E93 rfl ?_
 try simp -implicitDefEqProofs (disch:=first|exact dsc|fail)[hx.eq]
 generalize hs1:s.alloc (.cells [.func (.yield y) #[] #[]] false)=s1;have n1:s1.next=s.next+1:=by rw[<-hs1];simp
 have o1:Old s s1:=by rw[<-hs1];simp
 have b1:s1.heap s.next=some (.cells [.func (.yield y) #[] #[]] false):=by rw[<-hs1];simp
 refine F09 rfl ?_
 try simp -implicitDefEqProofs (disch:=first|exact dsc|fail)[mkFn,Value.oneCell']
 generalize hs2:((s1.alloc (.cells [.pointer (some ⟨t,0,none⟩)] false)).alloc (.cells [.int .i64 (-9223372036854775808),.int .i64 (-9223372036854775808),.int .i64 (-9223372036854775808),.int .u64 0] false)).alloc (.cells [.int .i64 9223372036854775807,.int .i64 9223372036854775807,.int .i64 9223372036854775807,.int .u64 18446744073709551615] false)=s2;have n2:s2.next=s.next+4:=by rw[<-hs2];simp[n1]
 have o2:Old s1 s2:=by rw[<-hs2];exact(((Old.refl _).alloc).alloc).alloc
 refine A0a ?_;refine B6v fun hY=>?_;refine⟨rfl,by simp,?_⟩
 have oA:=o1.trans o2;have q1:s2.heap s1.next=some (.cells [.pointer (some ⟨t,0,none⟩)] false):=by rw[<-hs2,St.alloc_old (by simp;omega),St.alloc_old (by simp),St.alloc_self]
 have q2:s2.heap (s1.next+1)=some (.cells (A0s.cells spLo) false):=by rw[<-hs2,St.alloc_old (by simp),St.alloc_at (by simp)];rfl
 have q3:s2.heap (s1.next+1+1)=some (.cells (A0s.cells spHi) false):=by rw[<-hs2,St.alloc_at (by simp)];rfl
 have q0:=(o2.eq (b:=s.next) (by omega)).trans b1
 clear hs2 hs1;generalize hrd:AObj.loop _ _ _ _ LoopState.ready none=rd at hY ⊢;have o3:Old s2 (s2.alloc rd):=by simp
 have oB:=oA.trans o3;refine C5i (o:=tint o s.next 0) (n0:=n0) (y:=s2.next) (T:=T) (t:=t) (M0:=M0) (J:=fun i M S=>J i M S/\(∀b,s.next<=b->b<s2.next+1->¬M b/\S.heap b=(s2.alloc rd).heap b)/\s2.next+1<=S.next)
  ((hT.fd (oB.tint (k:=0) (c:=fun _=>False)) (fun h=>h))) hok ⟨by simp;omega,(o3.eq (by omega)).trans q3⟩ ⟨by simp;omega,(o3.eq (by omega)).trans q2⟩ ⟨by simp;omega,(o3.eq (by omega)).trans q1⟩ (A0d (by omega)) (A0d (by omega)) (by simp;omega)
  (fun i M S hJ=>?_) (fun i M S hJ b hb=>((hL i).lt hJ.1 hb).2) (fun i M S S' hJ o4=>?_) (fun pre x post he=>?_) ⟨(hL 0).old h0 oB hn0,fun b hb1 hb2=>⟨fun h=>by have:=(hL 0).lt h0 h;omega,rfl⟩,by simp⟩ (fun M S hJ=>?_)
 ·obtain⟨k1,k2,k3⟩:=hJ;have hf:=hF _ _ _ k1;refine⟨⟨by simpa using k3,fun {b} hb hc=>?_⟩,fun _=>rfl⟩
  simp only[St.alloc_next]at hb;rcases Nat.lt_or_ge b s.next with hlt|hge
  ·rw[A7c hlt]at hc;rw[hf.chg.eq hlt hc,oB.eq hlt]
  ·exact(k2 b hge hb).2
 ·obtain⟨k1,k2,k3⟩:=hJ;refine⟨(hL i).old k1 o4 (by omega),fun b hb1 hb2=>⟨(k2 b hb1 hb2).1,(o4.eq (by omega)).trans (k2 b hb1 hb2).2⟩,by have:=o4.le;omega⟩
 ·intro M S Q2 hJ hgo hret;obtain⟨k1,k2,k3⟩:=hJ;have hrdy:S.heap s2.next=some rd:=((k2 s2.next (by omega) (by omega)).2).trans St.alloc_self
  have e0:S.heap s.next=some (.cells [.func (.yield y) #[] #[]] false):=((k2 s.next (by omega) (by omega)).2).trans ((o3.eq (by omega)).trans q0)
  have hnM:=fun b hb1 hb2=>(k2 b hb1 hb2).1;subst hrd;refine hY _ _ _ _ hrdy ?_
  try simp -implicitDefEqProofs (disch:=first|exact dsc|fail)[hrdy,e0]
  generalize hbs:AObj.loop _ _ _ _ LoopState.busy none=bsy;generalize hrd:AObj.loop _ _ _ _ LoopState.ready none=rd at *;have hny:=hnM s2.next (by omega) (by omega)
  have hst:J pre.length M ((S.put s2.next bsy).alloc (.cells [.int .i64 x.br,.int .i64 x.vol,.int .i64 x.blk,.int .u64 x.num] false)):=(hL _).st k1 (by simp) (fun b hb=>by
   have hbl:b<S.next/\b≠s2.next:=by
    rcases hb with h|h
    ·omega
    ·exact⟨((hL _).lt k1 h).2,fun e=>hny (e▸h)⟩
   rw[St.alloc_old (by simpa using hbl.1),St.put_other hbl.2])
  refine⟨rfl,rfl,hr pre x post he M _ _ hst (fun M' S3 hJ3 hK=>?_) (fun _ _ h _=>h.elim)⟩;have hle3:=hK.le;simp only[St.alloc_next,St.put_next]at hle3;have hown:=hK.own;simp only[St.alloc_next,St.put_next]at hown;have hK3:∀b,n0<=b->b<S.next->b≠s2.next->¬M b->S3.heap b=S.heap b:=fun b hb1 hb2 hb3 hb4=>by
   rw[hK.eq b hb1 (by simp;omega) hb4,St.alloc_old (by simpa using hb2),St.put_other hb3]
  have hb3:S3.heap s2.next=some bsy:=by
   rw[hK.eq s2.next (by omega) (by simp;omega) hny,St.alloc_old (by simp;omega),St.put_self]
  have hny':¬M' s2.next:=fun h=>(hown _ h).elim hny (fun e=>by omega)
  try simp -implicitDefEqProofs (disch:=first|exact dsc|fail)[]
  refine⟨hb3,hgo M' _ ⟨(hL _).st hJ3 (by simp) (fun b hb=>St.put_other (fun e=>?_)),fun b hb1 hb2=>⟨fun h=>(hown _ h).elim (hnM b hb1 hb2) (fun e=>by omega),?_⟩,by simp;omega⟩ ⟨by simp;omega,fun b hb1 hb2 hb4=>?_,fun b h=>(hown b h).imp id (fun e=>by omega)⟩⟩
  ·subst e;rcases hb with h|h
   ·omega
   ·exact hny' h
  ·by_cases e:b=s2.next
   ·subst e;rw[St.put_self,St.alloc_self]
   ·rw[St.put_other e,hK3 b (by omega) (by omega) e (hnM b hb1 hb2)]
    exact(k2 b hb1 hb2).2
  ·by_cases e:b=s2.next
   ·subst e;rw[St.put_self,hrdy]
   ·rw[St.put_other e,hK3 b hb1 hb2 e hb4]
 ·obtain⟨k1,k2,k3⟩:=hJ;have hrdy:S.heap s2.next=some rd:=((k2 s2.next (by omega) (by omega)).2).trans St.alloc_self
  have hny:=(k2 s2.next (by omega) (by omega)).1
  subst hrd;refine A74 hrdy ?_
  try simp -implicitDefEqProofs (disch:=first|exact dsc|fail)[]
  refine A0a (hq M _ ((hL _).st k1 (by simp) (fun b hb=>St.put_other (fun e=>?_))))
  subst e;rcases hb with h|h
  ·omega
  ·exact hny h
end
section
variable {s : St} {o : Nat → Nat} {c x : Nat} {T : Option AN} {Q : Post}
theorem D8r(h:A21 s o c x T)(hq:∀bx t S,Blk S bx [.pointer (some ⟨t,0,none⟩)]->A6u S o t T->Old s S->s.next<=bx->Q (.func (.func 159) #[] #[.pointer (some ⟨bx,0,none⟩)]) S):CC X 134 [.pointer (some ⟨x,0,none⟩)] Q s:=by
 obtain⟨t,h1,h2,h3,h4⟩:=h;refine E9w rfl ?_
 try simp -implicitDefEqProofs (disch:=first|exact dsc|fail)[]
 refine B7j h1 ?_
 try simp -implicitDefEqProofs (disch:=first|exact dsc|fail)[mkFn,Value.oneCell']
 exact A0a (hq s.next t _ ⟨by simp,by simp⟩ (h3.old (by simp)) (by simp) (Nat.le_refl _))
theorem F6f{s1:St}{bx t:Nat}{L:List Value}{ps:Array Tmp}{ag bd:Code}{K:A0l}{A:Fr}{cc:Nat->Prop}{R:Nat->(Nat->Prop)->St->Prop}{B:A0t->Post->St->Prop}(hT:A6u s1 o t T)(hok:TOkT spOk T)(hx:Blk s1 bx [.pointer (some ⟨t,0,none⟩)])(hcc:∀b,b<s1.next->cc b->o b≠0)
  (hR:∀i,Stab s1.next (R i)) (hY:∀(x:A0t) Q s',s1.next<s'.next->s'.heap s1.next=some (.loop L ps ag bd .ready none)->(s'.heap s1.next=some (.loop L ps ag bd .ready none)/\B x Q (s'.put s1.next (.loop L ps ag bd .busy none)))->CC X (tok s1.next) [A5b x] Q s')
  (hB:∀pre x post,A78 T=pre++x::post->Body s1 (.loop L ps ag bd .busy none) (.loop L ps ag bd .ready none) cc (R pre.length) (R (pre.length+1)) (B x))
  (h0:R 0 (fun _=>False) s1) (hk:∀M S,R (A78 T).length M S->Chg s1 S cc->(∀b,M b->s1.next<b/\b<S.next)->K .normal A S) :
  A96 P (CC X) (.func (.func 159) #[] #[.pointer (some ⟨bx,0,none⟩)]) s1.next (fun _ s'=>rfK s1.next K A s') (s1.alloc (.loop L ps ag bd .ready none)):=by
 refine⟨rfl,by simp,?_⟩
 have o1:Old s1 (s1.alloc (.loop L ps ag bd .ready none)):=by simp
 refine C9t (o:=o) (T:=T) (n0:=s1.next+1) (J:=fun i=>JX s1 (.loop L ps ag bd .ready none) cc (R i)) (hT.old o1) hok (hx.old o1) (by simp) (fun i M S hJ=>⟨⟨by have:=hJ.le;simp;omega,fun {b} hb hc=>?_⟩,fun _=>rfl⟩) (fun i=>JX.looper (hR i)) (fun pre x post he=>JX.round (hR _) (hR _) (hY x) (hB pre x post he)) (JX.start (hR 0) h0) (fun M S hJ=>hJ.done (hR _) (hk M))
 simp only[St.alloc_next]at hb;rcases Nat.lt_or_ge b s1.next with hlt|hge
 ·rw[hJ.eq b hlt (fun h=>hc (hcc b hlt h)),St.alloc_old hlt]
 ·have:b=s1.next:=by omega
  subst this;rw[hJ.ready,St.alloc_self]
end
end Go.Zz
