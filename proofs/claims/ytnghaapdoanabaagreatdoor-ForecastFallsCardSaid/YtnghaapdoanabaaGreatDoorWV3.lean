import Derived.Test.YtnghaapdoanabaaGreatDoorWV2
set_option linter.all false
set_option maxRecDepth 20000
set_option linter.all false
namespace Go.Zz
open Go
noncomputable section
variable (C:cT)(K:kT)(Q:pT)(s0:St)(a b c d e f g h i j l m n o p q r t u v w x y z A B D E F G H J M N O R T U V W X Y Z a0 a1 a2 a3 a4 a5 a6 a7 a8 a9 b0 b1 b2 b3 b4 b5 b6 b7 b8 b9:vT)(s:St)
def G8x:Code:=cp 6 [5,1,0]
def D7m:List Value:=undef::undef::a::un 3 (b::c::d::e::f::un 20 (g::h::i::un 53 []))
@[simp]def f6xB0(C:cT)(K:kT)(I:V9)(a b c d e f g h i:vT):oT:=bV .lss 3 i h fun j=>cw j (bI 30 g i fun l=>bL 33 l fun m=>nZ 33 fun n=>sw 33 n m (oF 33 0 n fun o=>oL 3 o fun p=>oV .leq 3 p f fun q=>gFf q 33 1 n fun r=>gLf q 3 r fun t=>gJf q e fun u=>gOf q (binV P .gtr 3 t u) fun v=>oQ q v fun w=>gFf w 33 1 n fun x=>gLf w 3 x fun y=>gJf w c fun z=>gFf w 33 0 n fun A=>gLf w 3 A fun B=>wf w (fun k s=>A0u P C (fv 12) [z,B] k s) fun D=>ck (A1j false w) (fun s=>(A04 (tAgg P 3) x s)=some y) (oS (fun s=>gO (A1j false w) (lenR P 34 D s)) fun E=>gOf w (binV P .neq 3 y E) fun F=>oQ w F fun G=>gJf G c fun H=>gFf G 33 0 n fun J=>gLf G 3 J fun M=>gOf G (binV P .sub 3 M (.int .i64 1)) fun N=>gJf G e fun O=>wf G (fun k s=>A0u P C (fv 12) [H,N] k s) fun R=>oS (fun s=>gO (A1j false G) (lenR P 34 R s)) fun T=>gOf G (binV P .neq 3 T O) fun U=>oQ G U fun V=>cw V (K .ret (ofL (D7m a (.bool false) c d e f g h i))) (oF 33 1 n fun W=>oL 3 W fun X=>oF 33 0 n fun Y=>oL 3 Y fun Z=>bA 3 i fun a0=>I a b c d X Z g h a0)))) (K (.exit 0) (ofL (D7m a b c d e f g h i)))
def E35:=lp9 h6 G8x 0 D7m f6xB0 (cp 6 [5,1,0,0])
def G10:A0l:=A0h 0 (kSeq (evC P C h6 (cp 6 [6]) 0 (kB 6 Q s0)) (kB 6 Q s0))
@[simp]theorem G0u:(G10 C Q s0) (.exit 0) (ofL (D7m a b c d e f g h i)) s=(bR 29 3 a fun j=>bV .add 3 f j fun l=>cf C 12 [c,l] fun m=>bH 34 m fun n=>bV .eql 3 n e fun o=>wJt o c fun p=>wt o (fun k s=>A0u P C (fv 13) [p] k s) fun q=>wJt o d fun r=>wVt o .eql 3 q r fun t=>bP o t fun u=>r1 Q s0 u) s:=by kernel_rfl
@[simp]def f6xS(C:cT)(Q:pT)(a b c:vT)(s0:St):Prop:=(cf C 9 [a,b] fun d=>cf C 10 [] fun e=>bM e fun f=>wJf f d fun g=>wOf f (binV P .eql 25 g (.pointer none)) fun h=>bQ f h fun i=>cw i (cf C 10 [] fun j=>r1 Q s0 j) (cf C 13 [d] fun l=>cf C 12 [d,l] fun m=>bH 34 m fun n=>cf C 19 [d] fun o=>bH 30 o fun p=>evC P C h6 G8x 0 (G10 C Q s0) (ofL (D7m c (.bool false) d l n l o p (.int .i64 0))))) s0
def f6xin:=en3 6 f6xS
end
variable {X : Y0}
section
variable {M : A02} {t t' n : Int}
theorem C74(hI:Inv M)(h0:0<=M.now)(h1:M.now<=t)(h2:t<=t')(h:pHas M.law n t'=true):pHas M.law n t=true:=by
 unfold pHas at h ⊢;cases hw:tMin M.law.T n with
 | none=>rw[hw]at h;simp at h
 | some w=>
  rw[hw]at h;simp only[Bool.and_eq_true,Bool.or_eq_true]at h ⊢;obtain⟨ha,hb⟩:=h;refine⟨ha,?_⟩;rcases hb with hb|(hb|hb)|hb
  ·exact .inl hb
  ·refine .inr (.inl (.inl ?_));unfold B56 at hb ⊢;simp only[Bool.and_eq_true,Bool.or_eq_true,decide_eq_true_eq,List.any_eq_true]at hb ⊢;refine⟨hb.1,?_⟩;rcases hb.2 with e|⟨m,hm,hlt⟩
   ·omega
   ·exact .inr ⟨m,hm,by omega⟩
  ·refine .inr (.inl (.inr ?_));unfold D2w at hb ⊢;simp only[List.any_eq_true,Bool.and_eq_true,B6e,decide_eq_true_eq]at hb ⊢;obtain⟨p,hp,⟨⟨⟨q1,q2⟩,q3⟩,q4⟩,q5⟩:=hb;have:=hI.book p hp;exact⟨p,hp,⟨⟨⟨q1,q2⟩,by omega⟩,by omega⟩,q5⟩
  ·exact .inr (.inr hb)
theorem E2g(hI:Inv M)(h0:0<=M.now)(h1:M.now<=t)(h2:t<=t')(hm:∀m,D0w M.law m->t<m->t'<m)(h:pHas M.law n t=true):pHas M.law n t'=true:=by
 unfold pHas at h ⊢;cases hw:tMin M.law.T n with
 | none=>rw[hw]at h;simp at h
 | some w=>
  rw[hw]at h;simp only[Bool.and_eq_true,Bool.or_eq_true]at h ⊢;obtain⟨ha,hb⟩:=h;refine⟨ha,?_⟩;rcases hb with hb|(hb|hb)|hb
  ·exact .inl hb
  ·refine .inr (.inl (.inl ?_));unfold B56 at hb ⊢;simp only[Bool.and_eq_true,Bool.or_eq_true,decide_eq_true_eq,List.any_eq_true]at hb ⊢;refine⟨hb.1,?_⟩;rcases hb.2 with e|⟨m,hm',hlt⟩
   ·omega
   ·refine .inr ⟨m,hm',hm m (.inl ?_) hlt⟩;unfold tMin at hw;obtain⟨x,hx,-⟩:=Option.map_eq_some_iff.1 hw;have hx':=List.find?_some hx;have hxm:=List.mem_of_find?_eq_some hx;simp only[beq_iff_eq]at hx';refine⟨x,hxm,?_⟩;rw[hx'];exact⟨by simpa using ha,hm'⟩
  ·refine .inr (.inl (.inr ?_));unfold D2w at hb ⊢;simp only[List.any_eq_true,Bool.and_eq_true,B6e,decide_eq_true_eq]at hb ⊢;obtain⟨p,hp,⟨⟨⟨q1,q2⟩,q3⟩,q4⟩,q5⟩:=hb;exact⟨p,hp,⟨⟨⟨q1,q2⟩,by omega⟩,hm p.until_ (.inr ⟨p,hp,rfl⟩) q4⟩,q5⟩
  ·exact .inr (.inr hb)
theorem B5i(hs:∀n,pHas M.law n t'=true->pHas M.law n t=true)(hL:∀p∈M.L,t'<p.until_->t<p.until_)(h:C3j M t' n):C3j M t n:=by
 have hp:∀n,n∈prom M t'->n∈prom M t:=fun n hn=>by
  unfold prom at hn ⊢;rw[List.mem_filter]at hn ⊢;exact⟨hn.1,hs n hn.2⟩
 have hN:∀y,A91 M.F M.X (prom M t') y=true->A91 M.F M.X (prom M t) y=true:=fun y hy=>by
  unfold A91 at hy ⊢;cases hf:fNum M.F y.br with
  | none=>rw[hf]at hy;simp at hy
  | some fr=>
   rw[hf]at hy;simp only[Bool.and_eq_true,List.any_eq_true]at hy ⊢;obtain⟨ha,p,hpm,hr⟩:=hy;exact⟨ha,p,hp p hpm,hr⟩
 refine⟨h.1,?_⟩;rcases h.2 with(⟨y,hy,e,hn⟩|⟨y,hy,hn,e⟩)|⟨p,hpm,e⟩|h3|⟨p,hpm,hu,e⟩
 ·exact .inl (.inl ⟨y,hy,e,hN y hn⟩)
 ·exact .inl (.inr ⟨y,hy,hN y hn,e⟩)
 ·exact .inr (.inl ⟨p,hp p hpm,e⟩)
 ·exact .inr (.inr (.inl h3))
 ·exact .inr (.inr (.inr ⟨p,hpm,hL p hpm hu,e⟩))
theorem C9v{xs:List Int}(hI:Inv M)(h0:0<=M.now)(h1:M.now<=t)(h2:t<=t')(hx:B3s M t xs):A45 M t'<=A45 M t:=by
 by_cases h:∃ys,B3s M t' ys
 ·obtain⟨ys,hy⟩:=h;rw[<-A9y hx,<-A9y hy];exact hy.len hx fun n hn=>B5i (fun n h=>C74 hI h0 h1 h2 h) (fun p _ h=>by omega) hn
 ·rw[A45,dif_neg h];exact Nat.zero_le _
theorem B7d{xs:List Int}(hI:Inv M)(h0:0<=M.now)(h1:M.now<=t)(h2:t<=t')(hm:∀m,D0w M.law m->t<m->t'<m)(hx:B3s M t xs):A45 M t'=A45 M t:=by
 have hy:B3s M t' xs:=⟨hx.1,fun n=>(hx.2 n).trans ⟨fun h=>B5i (fun n h=>E2g hI h0 h1 h2 hm h) (fun p hp h=>hm _ (.inr ⟨p,hp,rfl⟩) h) h,fun h=>B5i (fun n h=>C74 hI h0 h1 h2 h) (fun p _ h=>by omega) h⟩⟩
 rw[<-A9y hx,<-A9y hy]
theorem F2l{s:St}{o:Nat->Nat}{c mm x tt f b mc:Nat}{sl:Value}{m:Int}(h:A01 s o c mm x tt f b mc sl M)(hI:Inv M)(hm:D0w M.law m):m<=2147483648:=by
 rcases hm with⟨y,hy,_,hm⟩|⟨p,hp,rfl⟩
 ·unfold A8r at hm;cases hw:tMin M.law.T y.num with
  | none=>rw[hw]at hm;cases hm
  | some w=>
   rw[hw]at hm;obtain⟨k,hk,rfl⟩:=List.mem_map.1 hm;have hT:TOk M.law.T:=let ⟨_,hT,_,_⟩:=h.law.tab;hT.ok;have h1:=B2o hT hw;have h2:=B47 h.law.auto (List.mem_filter.1 hk).1;have h2:B8q M.law.A k<=1073741824:=h2.2;omega
 ·have:=(hI.book p hp).2;omega
end
theorem Falls_spec{s:St}{Q:Post}{v w:Value}{rs:List RuleM}{l:List StepM}{on:Int}(hon:0<=on/\on<65536)(hK:A2z s (fun _=>0))(hv:A3m.In s v rs)(hw:A3x.In s w l)(ha:∀x∈l,0<=x.a)
  (hq:Q (.bool true) s):CC X 6 [v,w,.int .u16 on] Q s:=by
 have hp0:¬inC 1 0:=by unfold inC;omega
 refine f6xin rfl ?_
 try simp -implicitDefEqProofs (disch:=first|exact dsc|fail)[]
 refine A77 1 (by decide) hK hv (fun S o' F=>hw.old (F.back hp0)) ha ?_ (fun m M S o' F hM hI ht hn hK'=>?_)
 ·try simp -implicitDefEqProofs (disch:=first|exact dsc|fail)[]
  refine A1h hK ?_
  try simp -implicitDefEqProofs (disch:=first|exact dsc|fail)[A6j]
  refine A1h hK ?_
  try simp -implicitDefEqProofs (disch:=first|exact dsc|fail)[]
  exact hq
 ·obtain⟨x,t,f,b,mc,sl,hM⟩:=hM;have oB:=F.back hp0;have hnow:=hM.now
  try simp -implicitDefEqProofs (disch:=first|exact dsc|fail)[]
  refine A1h hK' ?_
  try simp -implicitDefEqProofs (disch:=first|exact dsc|fail)[A0j A0f]
  refine A06 hM ?_
  try simp -implicitDefEqProofs (disch:=first|exact dsc|fail)[]
  refine A3p hM fun vk S1 xk gk hkl hkn hkb=>?_;have h1:=hM.old gk.old_;have l1:=gk.in_.len (P:=P) A0c (s':=S1)
  try simp -implicitDefEqProofs (disch:=first|exact dsc|fail)[l1]
  refine B4p h1 fun vf S2 ms o2 gf hms hml hmm=>?_;have h2:=h1.old o2;have l2:=fun S=>gf.len (P:=P) A4z (s':=S);simp only[List.length_map]at l2
  try simp -implicitDefEqProofs (disch:=first|exact dsc|fail)[l2,hkn]
  refine E35 fun I hI2=>?_;refine up (n:=ms.length) (M:=fun i=>∀S3 L0 xs,Old S2 S3->M.now<=L0->(∀j (h:j<ms.length),j<i->ms[j]<=L0)->(∀j (h:j<ms.length),i<=j->L0<ms[j])->B3s M L0 xs->L0<=2147483648->
   I (.int .u16 on) (.bool false) (.pointer (some ⟨m,0,none⟩)) (.int .i64 M.now) (.int .i64 (A45 M L0:Int)) (.int .i64 L0) vf (.int .i64 ms.length) (.int .i64 i) S3) (fun i hi ih S3 L0 xs o3 g1 g2 g3 g4 g5=>?_) 0 (Nat.zero_le _) S2 M.now xk (.refl _) (Int.le_refl _) (fun j h e=>by omega) (fun j h _=>((hmm _).1 (List.getElem_mem h)).1) hkl (by omega)
  refine hI2 _ _ _ _ _ _ _ _ _ _ ?_;have hmono:∀a b (h:a<=b) (hb:b<ms.length),ms[a]'(by omega)<=ms[b]:=fun a b h hb=>by
   rcases Nat.lt_or_ge a b with e|e
   ·have:=List.pairwise_iff_getElem.1 hms a b (by omega) hb e;omega
   ·have:a=b:=by omega
    subst this;exact Int.le_refl _
  have hp:=gf.old o3;have h3:=h2.old o3;by_cases hlt:i<ms.length
  ·have hlt2:i<(ms.map fun t=>(t,(A45 M t:Int))).length:=by simpa using hlt
   have hfa:=fun {n m k:Nat} {ag:Bool}=>hp.fa (n:=n) (m:=m) (k:=k) (ag:=ag) (by omega)
   have n0:=g3 i hlt (Nat.le_refl _);have n1:¬ms[i]<=L0:=by omega
   have n2:¬A45 M L0<A45 M ms[i]:=Nat.not_lt.2 (C9v hI hnow.1 g1 (by omega) g4)
   have n3:=F2l hM hI ((hmm _).1 (List.getElem_mem hlt)).2;have n4:A45 M (ms[i]-1)=A45 M L0:=B7d hI hnow.1 g1 (by omega) (fun m hm hlt'=>by
    obtain⟨j,hj,rfl⟩:=List.getElem_of_mem ((hmm m).2 ⟨by omega,hm⟩)
    rcases Nat.lt_or_ge j i with e|e
    ·have:=g2 j hj e;omega
    ·have:=hmono i j e hj;omega) g4
   try simp -implicitDefEqProofs (disch:=first|exact dsc|fail)[hlt,hp.idx,hp.agg hlt2,C05,n1,n2]
   refine A3p (h3.old (by repeat (first|exact Old.refl _|apply Old.alloc))) fun v1 S4 x1 k1 hk1 hk1n _=>?_
   have h4:=(h3.old (show Old S3 (S3.alloc (.cells [.int .i64 ms[i],.int .i64 (A45 M ms[i]:Int)] false))from(by repeat (first|exact Old.refl _|apply Old.alloc)))).old k1.old_
   have b4:=(k1.old_.eq (b:=S3.next) (by simp)).trans St.alloc_self
   have l4:=k1.in_.len (P:=P) A0c (s':=S4)
   try simp -implicitDefEqProofs (disch:=first|exact dsc|fail)[b4,l4,hk1n]
   refine A3p h4 fun v2 S5 x2 k2 hk2 hk2n _=>?_;have b5:=(k2.old_.eq (b:=S3.next) (Nat.lt_of_lt_of_le (by simp) k1.old_.le)).trans b4
   have l5:=k2.in_.len (P:=P) A0c (s':=S5)
   try simp -implicitDefEqProofs (disch:=first|exact dsc|fail)[b5,l5,hk2n,n4]
   refine ih hlt S5 ms[i] x1 (((o3.trans (show Old S3 (S3.alloc (.cells [.int .i64 ms[i],.int .i64 (A45 M ms[i]:Int)] false))from(by repeat (first|exact Old.refl _|apply Old.alloc)))).trans k1.old_).trans k2.old_) (by omega) (fun j hj e=>hmono j i (by omega) hlt) (fun j hj e=>?_) hk1 n3
   exact List.pairwise_iff_getElem.1 hms i j hlt hj (by omega)
  ·have n4:A45 M (L0+on)=A45 M L0:=B7d hI hnow.1 g1 (by omega) (fun m hm hlt'=>by
    obtain⟨j,hj,rfl⟩:=List.getElem_of_mem ((hmm m).2 ⟨by omega,hm⟩)
    have:=g2 j hj (by omega);omega) g4
   try simp -implicitDefEqProofs (disch:=first|exact dsc|fail)[hlt]
   refine A3p h3 fun v1 S4 x1 k1 hk1 hk1n _=>?_;have l4:=k1.in_.len (P:=P) A0c (s':=S4)
   try simp -implicitDefEqProofs (disch:=first|exact dsc|fail)[l4,hk1n,n4]
   refine A06 (h3.old k1.old_) ?_
   try simp -implicitDefEqProofs (disch:=first|exact dsc|fail)[]
   exact A0b ((((oB.trans gk.old_).trans o2).trans o3).trans k1.old_) (.bool _) hq
end Go.Zz
