import Derived.Test.YtnghaapdoanabaaGreatDoorWS1
set_option linter.all false
set_option maxRecDepth 20000
set_option linter.all false
namespace Go.Zz
open Go
variable {X : Y0}
def plE:Enc (Int×Int×Int) 3:=⟨fun p=>[.int .i64 p.1,.int .i64 p.2.1,.int .i64 p.2.2],fun _=>rfl⟩
abbrev plV(br vol blk:Int):Value:=.agg #[.int .i64 br,.int .i64 vol,.int .i64 blk]
def nxt(M:A02)(t vol blk:Int):Int×Int:=if(A16 M (A14 M t 0 vol (blk+1))).1=0 then(vol,blk+1)else if(A16 M (A14 M t 0 (vol+1) 0)).1=0 then(vol+1,0)else(0,0)
theorem G7c(vol blk vol':Int):bslN (some (46,3,24,[.int .i64 0,.int .i64 0,.int .i64 0])) 2 #[(0,plV 0 vol blk),(1,plV 0 vol' 0)]=some (.cells [.int .i64 0,.int .i64 vol,.int .i64 blk,.int .i64 0,.int .i64 vol',.int .i64 0] true,.slc 2 2):=by kernel_rfl
section
variable {s S : St} {o o' : Nat → Nat} {d : Nat → Prop} {c c2 m x t f b mc : Nat} {sl : Value} {M : A02} {Q : Post}
theorem C9d{min vol blk br:Int}(hc2:c+6<=c2)(hK:A2z s o)(h:A01 s o c m x t f b mc sl M)(hv:0<=vol/\vol<=100)(hb:0<=blk/\blk<=100)(hq:∀S o',Fd s S o o' (inC c2)->Q (plV 0 (nxt M min vol blk).1 (nxt M min vol blk).2) S):CC X 43 [.pointer (some ⟨m,0,none⟩),.int .i64 min,plV br vol blk] Q s:=by
 have hw1:IntKind.i64.wrap (vol+1)=vol+1:=wrap_i64 (by omega) (by omega)
 have hw2:IntKind.i64.wrap (blk+1)=blk+1:=wrap_i64 (by omega) (by omega)
 refine G9n rfl ?_
 try simp -implicitDefEqProofs (disch:=first|exact dsc|fail)[hw1,hw2,G7c]
 generalize hs1:((s.alloc (.cells [.int .i64 br,.int .i64 vol,.int .i64 blk] false)).alloc (.cells [.int .i64 0,.int .i64 0,.int .i64 0] false)).alloc (.cells [.int .i64 0,.int .i64 vol,.int .i64 (blk+1),.int .i64 0,.int .i64 (vol+1),.int .i64 0] true)=s1;have o1:Old s s1:=by subst hs1;exact(((Old.refl s).alloc).alloc).alloc
 have n1:s1.next=s.next+3:=by subst hs1;simp
 have b1:s1.heap (s.next+1)=some (.cells [.int .i64 0,.int .i64 0,.int .i64 0] false):=by subst hs1;simp -implicitDefEqProofs (disch:=first|exact dsc|fail)[]
 have b2:s1.heap (s.next+1+1)=some (.cells [.int .i64 0,.int .i64 vol,.int .i64 (blk+1),.int .i64 0,.int .i64 (vol+1),.int .i64 0] true):=by subst hs1;simp -implicitDefEqProofs (disch:=first|exact dsc|fail)[]
 clear hs1;have F1:Fd s s1 o (tint o s.next 0) (fun _=>False):=o1.tint
 have c1:tint o s.next 0 (s.next+1)=0:=A0d (by omega)
 have hI0:Im plE s1 (tint o s.next 0) (.slice (some ⟨s.next+1+1,0,none⟩) 2 2) [(0,vol,blk+1),(0,vol+1,0)]:=⟨Enc.In.made b2 (by omega) rfl rfl (by omega),fun _ a l c e=>by cases e;exact A0d (by show s.next<=s.next+1+1;omega)⟩
 generalize tint o s.next 0=oA at *
 have h1:=h.fd F1 (fun _ h=>h.elim) id;have hK1:=hK.fd F1 id;have hlen:=fun S=>hI0.1.len (P:=P) B1k (s':=S);simp only[List.length_cons,List.length_nil]at hlen
 try simp -implicitDefEqProofs (disch:=first|exact dsc|fail)[hlen]
 refine D47 fun I hI=>?_;have hp0:¬inC c2 0:=by have:=h.pos;unfold inC;omega
 have hcc:∀k,inC c2 k->¬inC c k:=fun k hk hk'=>by unfold inC at *;omega
 have key:∀(i:Nat) (q:Int×Int×Int) (hi:i<2) S o',[((0:Int),vol,blk+1),(0,vol+1,0)][i]?=some q->Fd s1 S oA o' (inC c2)->
   ((A16 M (A14 M min q.1 q.2.1 q.2.2)).1=0->∀S o',Fd s S o o' (inC c2)->Q (plV q.1 q.2.1 q.2.2) S)->
   ((A16 M (A14 M min q.1 q.2.1 q.2.2)).1≠0->∀S o',Fd s1 S oA o' (inC c2)->I (.pointer (some ⟨m,0,none⟩)) (.int .i64 min) (.pointer (some ⟨s.next+1,0,none⟩)) (.slice (some ⟨s.next+1+1,0,none⟩) 2 2) (.int .i64 2) (.int .i64 ((i+1:Nat):Int)) S)->
   I (.pointer (some ⟨m,0,none⟩)) (.int .i64 min) (.pointer (some ⟨s.next+1,0,none⟩)) (.slice (some ⟨s.next+1+1,0,none⟩) 2 2) (.int .i64 2) (.int .i64 (i:Int)) S:=by
  intro i q hi S o' hqi F hyes hno;refine hI _ _ _ _ _ _ _ ?_;have hS:=h1.fd F hcc hp0;have hKS:=hK1.fd F hp0;have hIS:=hI0.fd F hp0;have e1:=(F.chg.eq (b:=s.next+1) (by omega) (by rw[c1];exact hp0)).trans b1
  have hag:=hIS.1.agg (i:=i) (by simpa using hi)
  have hqq:[((0:Int),vol,blk+1),(0,vol+1,0)][i]'(by simpa using hi)=q:=by
   have:=List.getElem?_eq_some_iff.1 hqi;exact this.2
  rw[hqq]at hag;simp only[plE]at hag;have hi':(i:Int)<2:=by omega
  have hidx:=hIS.1.idx (q:=.i64) (ag:=true) (j:=(i:Int)) (by omega) (by simpa using hi')
  simp only[Int.toNat_natCast]at hidx
  try simp -implicitDefEqProofs (disch:=first|exact dsc|fail)[hi',hidx,hag]
  have oB:Old S (S.alloc (.cells (plE.cells q) false)):=by simp
  have FB:Fd S (S.alloc (.cells (plE.cells q) false)) o' (tint o' S.next 0) (fun _=>False):=oB.tint
  have bB:(S.alloc (.cells (plE.cells q) false)).heap S.next=some (.cells (plE.cells q) false):=St.alloc_self
  have nB:(S.alloc (.cells (plE.cells q) false)).next=S.next+1:=by simp
  have cB:tint o' S.next 0 S.next=0:=A0d (Nat.le_refl _)
  simp only[plE]at oB FB bB nB;generalize S.alloc _=S2 at *;generalize tint o' S.next 0=o2 at *
  have h2:=hS.fd FB (fun _ h=>h.elim) id;refine B2u c2 (by have:=h.pos;omega) h2 fun m' S3 o3 f3 hm'=>?_
  have h3:=h2.fd f3 (fun _ h=>h.elim) id;have hle3:=f3.chg.le;have b3:=(f3.chg.eq (b:=S.next) (by omega) id).trans bB
  have c3:=(f3.col (b:=S.next) (by omega)).trans cB
  try simp -implicitDefEqProofs (disch:=first|exact dsc|fail)[b3]
  refine C2a h3 fun v S4 hN=>?_;have f4:Fd S3 S4 o3 (tint o3 S3.next 0) (fun _=>False):=hN.old_.tint
  have hIm:=hN.im (o:=o3);have hle4:=f4.chg.le;have b4:=(f4.chg.eq (b:=S.next) (by omega) id).trans b3
  have c4:=(f4.col (b:=S.next) (by omega)).trans c3
  generalize tint o3 S3.next 0=o4 at *
  obtain⟨x',t',f',b',mc',sl',hm'⟩:=hm';have hm4:=hm'.fd f4 (fun _ h=>h.elim) id;have hK4:=((hKS.fd FB id).fd f3 id).fd f4 id
  try simp -implicitDefEqProofs (disch:=first|exact dsc|fail)[]
  refine A70 (k:=A14 M min q.1 q.2.1 q.2.2) hK4 hm4 hIm.1 (fun S o' F=>(hIm.fd F hp0).1) fun S5 o5 f5 h5=>?_;have hle5:=f5.chg.le;have b5:=(f5.chg.eq (b:=S.next) (by omega) (by rw[c4];exact hp0)).trans b4
  have F5:Fd s1 S5 oA o5 (inC c2):=(((F.trans (FB.mono (fun _ h=>h.elim))).trans (f3.mono (fun _ h=>h.elim))).trans (f4.mono (fun _ h=>h.elim))).trans f5;by_cases he:(A16 M (A14 M min q.1 q.2.1 q.2.2)).1=0
  ·have e5:=(F5.chg.eq (b:=s.next+1) (by omega) (by rw[c1];exact hp0)).trans b1
   have hne:s.next+1≠S.next:=by have:=F.chg.le;omega
   try simp -implicitDefEqProofs (disch:=first|exact dsc|fail)[he,b5,e5]
   have Fs:∀y,Fd s (S5.put (s.next+1) y) o o5 (inC c2):=fun y=>⟨⟨by simp;have:=F5.chg.le;omega,fun {b} hb hn=>by
    rw[St.put_other (by omega),F5.chg.eq (by omega) (by rw[F1.col hb];exact hn),o1.eq hb]⟩,fun {b} hb=>(F5.col (by omega)).trans (F1.col hb)⟩
   exact A0a (hyes he _ o5 (Fs _))
  ·try simp -implicitDefEqProofs (disch:=first|exact dsc|fail)[he]
   exact hno he S5 o5 F5
 refine key 0 (0,vol,blk+1) (by omega) s1 oA rfl .refl (fun e S o' F=>?_) (fun e S o' F=>key 1 (0,vol+1,0) (by omega) S o' rfl F (fun e' S o' F=>?_) (fun e' S o' F=>?_))
 ·have:=hq S o' F;simpa[nxt,e]using this
 ·have:=hq S o' F;simpa[nxt,e,e']using this
 ·refine hI _ _ _ _ _ _ _ ?_;have e5:=(F.chg.eq (b:=s.next+1) (by omega) (by rw[c1];exact hp0)).trans b1
  try simp -implicitDefEqProofs (disch:=first|exact dsc|fail)[e5]
  have Fs:∀y,Fd s (S.put (s.next+1) y) o o' (inC c2):=fun y=>⟨⟨by simp;have:=F.chg.le;omega,fun {b} hb hn=>by
   rw[St.put_other (by omega),F.chg.eq (by omega) (by rw[F1.col hb];exact hn),o1.eq hb]⟩,fun {b} hb=>(F.col (by omega)).trans (F1.col hb)⟩
  have:=hq _ o' (Fs (.cells [.int .i64 0,.int .i64 0,.int .i64 0] false));refine A0a ?_;simpa[nxt,e,e']using this
theorem Inv.fits{k:A1k}(h:Inv M)(hk:k.kind=1)(hr:(A16 M k).1=0):0<=k.vol/\k.vol<2/\0<=k.blk/\k.blk<3:=by
 unfold A16 at hr;have hm:A7n k=true:=by simp[A7n,hk]
 split at hr
 ·exact absurd hr (by show ¬(3:Int)=0;omega)
 ·next h1=>
  simp only[Bool.not_eq_true',Bool.not_eq_false]at h1;split at hr
  ·exact absurd hr (by show ¬(15:Int)=0;omega)
  ·split at hr
   ·exact absurd hr (by show ¬(2:Int)=0;omega)
   ·next h2=>
    have hp:=A84 h1 (by omega)
    simp only[spOk,B0x]at hp;have h3:¬(M.vols<=k.vol\/M.blks<=k.blk):=fun g=>h2 ⟨hm,g⟩;rw[h.sizes.1,h.sizes.2]at h3;omega
theorem E1x{t vol blk:Int}(h:Inv M)(hv:0<=vol)(hb:0<=blk):0<=(nxt M t vol blk).1/\(nxt M t vol blk).1<2/\0<=(nxt M t vol blk).2/\(nxt M t vol blk).2<3:=by
 unfold nxt;split
 ·next e=>exact h.fits (k:=A14 M t 0 vol (blk+1)) rfl e
 ·split
  ·next e=>exact h.fits (k:=A14 M t 0 (vol+1) 0) rfl e
  ·simp
end
noncomputable def B26(M:A02)(t:Int)(p:Int×Int)(first:Bool):Int×Int:=if first then p else nxt M t p.1 p.2
noncomputable def refL(most every upto:Int):Nat->A02->Int->Int×Int->Bool->Int×Bool
 | 0,_,_,_,_=>(0,false)
 | r+1,M,min,p,first=>if upto<min\/upto-min<every then(0,false)
  else if most<A45 M (min+every)+1 then(min+every,true)
  else if(A16 M (A14 M (min+every) 0 (B26 M (min+every) p first).1 (B26 M (min+every) p first).2)).1≠0 then(0,false)
  else refL most every upto r (A16 M (A14 M (min+every) 0 (B26 M (min+every) p first).1 (B26 M (min+every) p first).2)).2 (min+every) (B26 M (min+every) p first) false
def in2(c2:Nat):Nat->Prop:=fun k=>c2<=k/\k<c2+12
section
variable {s S : St} {o o' : Nat → Nat} {d : Nat → Prop} {c c2 m x t f b mc : Nat} {sl : Value} {M : A02} {Q : Post}
theorem C2b{most every upto:Int}(he:every<1)(hq:Q (.tuple #[.int .i64 0,.bool false]) s):CC X 18 [.pointer (some ⟨m,0,none⟩),.int .i64 most,.int .i64 every,.int .i64 upto] Q s:=by
 refine D5j rfl ?_
 try simp -implicitDefEqProofs (disch:=first|exact dsc|fail)[A0j A0f,he]
 exact hq
theorem A2d{most every upto:Int}{r:Nat}(hc2:c+6<=c2)(hK:A2z s o)(h:A01 s o c m x t f b mc sl M)(hI:Inv M)(he:1<=every)(hu:upto<=9223372036854775807)(hr:upto<M.now+r*every)
  (hq:∀S o',Fd s S o o' (in2 c2)->Q (.tuple #[.int .i64 (refL most every upto r M M.now (0,0) true).1,.bool (refL most every upto r M M.now (0,0) true).2]) S):CC X 18 [.pointer (some ⟨m,0,none⟩),.int .i64 most,.int .i64 every,.int .i64 upto] Q s:=by
 have he':¬every<1:=by omega
 refine D5j rfl ?_
 try simp -implicitDefEqProofs (disch:=first|exact dsc|fail)[A0j A0f,he']
 refine B2u c2 (by have:=h.pos;omega) h fun xm S1 o1 f1 hm=>?_
 obtain⟨x',t',f',b',mc',sl',hm1⟩:=hm
 try simp -implicitDefEqProofs (disch:=first|exact dsc|fail)[]
 refine A06 hm1 ?_
 try simp -implicitDefEqProofs (disch:=first|exact dsc|fail)[]
 have F2:Fd S1 (S1.alloc (.cells [.int .i64 0,.int .i64 0,.int .i64 0] false)) o1 (tint o1 S1.next (c2+12)) (fun _=>False):=(Old.alloc (.refl _)).tint
 have b2:Blk (S1.alloc (.cells [.int .i64 0,.int .i64 0,.int .i64 0] false)) S1.next [.int .i64 0,.int .i64 0,.int .i64 0]:=⟨by simp,St.alloc_self⟩
 have c3:tint o1 S1.next (c2+12) S1.next=c2+12:=A0d (Nat.le_refl _)
 have hle1:=f1.chg.le;generalize S1.alloc _=S2 at *;generalize tint o1 S1.next (c2+12)=o2 at *
 have hnow:=h.now;have hpos:=h.pos;refine D9c fun I hI'=>?_;have key:∀(r:Nat) (M':A02) (min:Int) (p:Int×Int) (first:Bool) S o',Fd s S o o' (in2 c2)->C35 S o' c2 xm M'->A2z S o'->Blk S S1.next [.int .i64 0,.int .i64 p.1,.int .i64 p.2]->o' S1.next=c2+12->Inv M'->0<=min->upto<min+r*every->(0<=p.1/\p.1<2/\0<=p.2/\p.2<3)->
   (∀S o',Fd s S o o' (in2 c2)->Q (.tuple #[.int .i64 (refL most every upto r M' min p first).1,.bool (refL most every upto r M' min p first).2]) S)->
   I (.int .i64 most) (.int .i64 every) (.int .i64 upto) (.int .i64 0) (.bool false) (.pointer (some ⟨xm,0,none⟩)) (.int .i64 min) (.pointer (some ⟨S1.next,0,none⟩)) (.bool first) S:=by
  intro r;induction r with
  | zero=>
   intro M' min p first S o' F hM hKS hB hcol hInv h0 hu' hp hq
   refine hI' _ _ _ _ _ _ _ _ _ _ ?_;have hlt:upto<min:=by simpa using hu'
   try simp -implicitDefEqProofs (disch:=first|exact dsc|fail)[hlt]
   exact A0a (hq S o' F)
  | succ r ih=>
   intro M' min p first S o' F hM hKS hB hcol hInv h0 hu' hp hq
   refine hI' _ _ _ _ _ _ _ _ _ _ ?_;rw[refL]at hq;by_cases g1:upto<min
   ·rw[if_pos (.inl g1)]at hq
    try simp -implicitDefEqProofs (disch:=first|exact dsc|fail)[g1]
    exact A0a (hq S o' F)
   ·have hw1:IntKind.i64.wrap (upto-min)=upto-min:=wrap_i64 (by omega) (by omega)
    by_cases g2:upto-min<every
    ·rw[if_pos (.inr g2)]at hq
     try simp -implicitDefEqProofs (disch:=first|exact dsc|fail)[g1,hw1,g2]
     exact A0a (hq S o' F)
    ·rw[if_neg (by omega)]at hq
     have hw2:IntKind.i64.wrap (min+every)=min+every:=wrap_i64 (by omega) (by omega)
     try simp -implicitDefEqProofs (disch:=first|exact dsc|fail)[-D8n,g1,hw1,g2,hw2]
     obtain⟨x3,t3,f3,b3,mc3,sl3,hM⟩:=hM;refine A3p hM fun v S3 xs k1 k2 k3 k4=>?_;have hl:=k1.in_.len (P:=P) A0c (s':=S3)
     try simp -implicitDefEqProofs (disch:=first|exact dsc|fail)[-D8n,hl]
     rw[<-k3]at hq;have f4:Fd S S3 o' (tint o' S.next 0) (fun _=>False):=k1.old_.tint
     have F3:=F.trans (f4.mono (fun _ h=>h.elim));have hM3:=hM.fd f4 (fun _ h=>h.elim) id;have hK3:=hKS.fd f4 id;have hB3:=hB.fd f4 id;have hcol3:=(f4.col hB.lt).trans hcol;generalize tint o' S.next 0=o3 at *
     have hp2:¬inC c2 0:=by unfold inC;omega
     have hp3:¬inC (c2+6) 0:=by unfold inC;omega
     by_cases g3:most<(xs.length:Int)+1
     ·rw[if_pos g3]at hq ⊢;exact A0a (hq S3 o3 F3)
     ·rw[if_neg g3]at hq ⊢;have J2:∀S o' (q:Int×Int),q=B26 M' (min+every) p first->(0<=q.1/\q.1<2/\0<=q.2/\q.2<3)->Fd s S o o' (in2 c2)->A01 S o' c2 xm x3 t3 f3 b3 mc3 sl3 M'->A2z S o'->Blk S S1.next [.int .i64 0,.int .i64 q.1,.int .i64 q.2]->o' S1.next=c2+12->
        B79 (CC X) (D59 (CC X) Q s) I (.int .i64 most) (.int .i64 every) (.int .i64 upto) (.int .i64 0) (.bool false) (.pointer (some ⟨xm,0,none⟩)) (.int .i64 (min+every)) (.pointer (some ⟨S1.next,0,none⟩)) (.bool first) S:=by
       intro S o' q hqe hqb F hM hKS hB hcol;rw[<-hqe]at hq
       try simp -implicitDefEqProofs (disch:=first|exact dsc|fail)[hB.eq]
       refine C2a hM fun v S4 hN=>?_;have f4:Fd S S4 o' (tint o' S.next 0) (fun _=>False):=hN.old_.tint
       have hIm:=hN.im (o:=o');have hB4:=hB.fd f4 id;have hcol4:=(f4.col hB.lt).trans hcol;generalize tint o' S.next 0=o4 at *
       try simp -implicitDefEqProofs (disch:=first|exact dsc|fail)[]
       refine A70 (k:=A14 M' (min+every) 0 q.1 q.2) (hKS.fd f4 id) (hM.fd f4 (fun _ h=>h.elim) id) hIm.1 (fun S o' F=>(hIm.fd F hp2).1) fun S5 o5 f5 h5=>?_;have F5:=(F.trans (f4.mono (fun _ h=>h.elim))).trans (f5.mono (fun k hk=>⟨hk.1,by have:=hk.2;omega⟩))
       have hB5:=hB4.fd f5 (by rw[hcol4];unfold inC;omega)
       have hcol5:=(f5.col hB4.lt).trans hcol4;by_cases he:(A16 M' (A14 M' (min+every) 0 q.1 q.2)).1=0
       ·rw[if_neg (by simpa using he)]at hq
        try simp -implicitDefEqProofs (disch:=first|exact dsc|fail)[he]
        refine ih _ (min+every) q false S5 o5 F5 ⟨_,_,_,_,_,_,h5⟩ ((hKS.fd f4 id).fd f5 hp2) hB5 hcol5 (B2f hInv).1 (by omega) ?_ hqb hq
        rw[Int.natCast_add,Int.add_mul]at hu';omega
       ·rw[if_pos he]at hq
        try simp -implicitDefEqProofs (disch:=first|exact dsc|fail)[he]
        exact A0a (hq S5 o5 F5)
      cases first with
      | true=>
       try simp -implicitDefEqProofs (disch:=first|exact dsc|fail)[-B79]
       exact J2 S3 o3 p rfl hp F3 hM3 hK3 hB3 hcol3
      | false=>
       try simp -implicitDefEqProofs (disch:=first|exact dsc|fail)[-B79,hB3.eq]
       refine C9d (c2:=c2+6) (by omega) hK3 hM3 (by omega) (by omega) fun S6 o6 f6=>?_
       have hB6:=hB3.fd f6 (by rw[hcol3];unfold inC;omega)
       have hcol6:=(f6.col hB3.lt).trans hcol3
       try simp -implicitDefEqProofs (disch:=first|exact dsc|fail)[-B79,hB6.eq]
       have f7:∀y,Fd S6 (S6.put S1.next y) o6 o6 (·=c2+12):=fun y=>⟨⟨by simp,fun {b} hb hn=>St.put_other (fun e=>hn (by rw[e];exact hcol6))⟩,fun _=>rfl⟩
       have F6:=F3.trans (f6.mono (fun k hk=>⟨by have:=hk.1;omega,by have:=hk.2;omega⟩))
       have hM6:=hM3.fd f6 (fun k hk hk'=>by unfold inC at *;omega) hp3
       have F7:∀y,Fd s (S6.put S1.next y) o o6 (in2 c2):=fun y=>⟨⟨by simpa using F6.chg.le,fun {b} hb hn=>(St.put_other (by omega)).trans (F6.chg.eq hb hn)⟩,F6.col⟩
       exact J2 _ o6 (nxt M' (min+every) p.1 p.2) rfl (E1x hInv hp.1 hp.2.2.1) (F7 _) (hM6.fd (f7 _) (fun k e=>by subst e;unfold inC;omega) (by omega)) ((hK3.fd f6 hp3).fd (f7 _) (by omega)) ⟨by simpa using hB6.lt,St.put_self⟩ hcol6
 exact key r M M.now (0,0) true S2 o2 ((f1.trans F2).mono (fun _ h=>h.elim)) ⟨_,_,_,_,_,_,hm1.fd F2 (fun _ h=>h.elim) id⟩ ((hK.fd f1 id).fd F2 id) b2 c3 hI (by omega) hr (by simp) hq
end
end Go.Zz
set_option maxRecDepth 20000
set_option linter.all false
namespace Go.Zz
open Go
variable {X : Y0}
theorem D0v{M:A02}{t br vol blk:Int}:E3f (A14 M t br vol blk)=A14 M t br vol blk:=by
 simp[E3f,A14,A97,hRef,B6g,B6d]
theorem C97{k:A1k}:C06 k k=true:=by simp[C06]
theorem C4h{M:A02}{t vol blk:Int}(h1:0<=M.top/\M.top<65535)(h2:0<=t/\t<=1073741824)(h3:0<=vol/\vol<2)(h4:0<=blk/\blk<3):A6t (A14 M t 0 vol blk)=true:=by
 unfold A6t;rw[D0v,C97];have e1:(A14 M t 0 vol blk).body.length=32:=by simp[A14]
 simp only[A3v,e1];simp only[A14,B6h,A3n,B1h];simp;refine⟨⟨⟨decide_eq_true (by omega),decide_eq_true (by omega)⟩,decide_eq_true (by omega),decide_eq_true (by omega)⟩,⟨decide_eq_true (by omega),decide_eq_true (by omega)⟩,decide_eq_true (by omega),decide_eq_true (by omega)⟩
def A6b(M:A02)(t vol blk:Int):A02:={ M with T:=M.T++[⟨M.top+1,t,false⟩],X:=some (tPut M.X ⟨0,vol,blk,M.top+1⟩),C:=fun n=>if n=M.top+1 then some (A14 M t 0 vol blk)else M.C n,top:=M.top+1,now:=t }
theorem B2v{M:A02}{t vol blk:Int}(h:Inv M)(h0:0<=M.now)(h1:0<=M.top/\M.top<65535)(h2:M.now<=t/\t<=1073741824)(h3:0<=vol/\vol<2)(h4:0<=blk/\blk<3):A16 M (A14 M t 0 vol blk)=(0,A6b M t vol blk):=by
 have hr:=C4h (M:=M) (t:=t) h1 ⟨by omega,h2.2⟩ h3 h4
 have hp:=C7l (M:=M) (k:=B0x (A14 M t 0 vol blk)) (N:=M.top) h.idx (by simp only[B0x,A14];omega) (by simp only[B0x,A14];omega)
 have ht:tAdd M.T (M.top+1) t=(0,M.T++[⟨M.top+1,t,false⟩]):=by
  unfold tAdd;rw[if_neg (by omega),if_neg]
  rintro⟨x,hx,hx'⟩;have:=h.tab x (List.mem_of_getLast? hx);omega
 have hk:A59 M (A14 M t 0 vol blk)=(0,{ M with T:=M.T++[⟨M.top+1,t,false⟩],X:=some (tPut M.X (B0x (A14 M t 0 vol blk))) }):=by
  unfold A59;rw[if_pos (by simp[A14])]
  unfold B4w;have e:tAdd M.T (A14 M t 0 vol blk).num (A14 M t 0 vol blk).min=(0,M.T++[⟨M.top+1,t,false⟩]):=ht;rw[e];have e2:A2v M.F (A14 M t 0 vol blk).branch=true:=by simp[A2v,A14]
  rw[if_neg (by simp),if_pos e2,hp]
 unfold A16;rw[hr,hk];have hs:=h.sizes;have e1:¬(A7n (A14 M t 0 vol blk)=true/\(M.vols<=(A14 M t 0 vol blk).vol\/M.blks<=(A14 M t 0 vol blk).blk)):=by
  simp only[A14];omega
 have e2:¬((A14 M t 0 vol blk).num<=M.top\/(A14 M t 0 vol blk).min<M.now):=by simp only[A14];omega
 rw[if_neg (by simp),if_neg e2,if_neg e1,if_neg (by simp)]
 rfl
theorem C71{M:A02}{t vol blk:Int}(h:Inv M)(h0:0<=M.now)(h1:0<=M.top/\M.top<65535)(h2:M.now<=t/\t<=1073741824)(h3:0<=vol/\vol<2)(h4:0<=blk/\blk<3):Inv (A6b M t vol blk):=by
 have:=(B2f (k:=A14 M t 0 vol blk) h).1;rw[B2v h h0 h1 h2 h3 h4]at this;exact this
theorem G36{M:A02}{t vol blk:Int}(h:Inv M)(h0:0<=M.now)(h1:0<=M.top/\M.top<65535)(h2:M.now<=t/\t<=1073741824)(h3:0<=vol/\vol<2)(h4:0<=blk/\blk<3) :
  nxt M t vol blk=if blk+1<3 then(vol,blk+1)else if vol+1<2 then(vol+1,0)else(0,0):=by
 unfold nxt;by_cases g1:blk+1<3
 ·rw[if_pos g1,B2v h h0 h1 h2 h3 ⟨by omega,g1⟩,if_pos rfl]
 ·rw[if_neg g1,if_neg (fun e=>by have:=h.fits (k:=A14 M t 0 vol (blk+1)) rfl e;simp only[A14]at this;omega)]
  by_cases g2:vol+1<2
  ·rw[if_pos g2,B2v h h0 h1 h2 ⟨by omega,g2⟩ ⟨by omega,by omega⟩,if_pos rfl]
  ·rw[if_neg g2,if_neg (fun e=>by have:=h.fits (k:=A14 M t 0 (vol+1) 0) rfl e;simp only[A14]at this;omega)]
def pl(i:Nat):Int×Int:=(((i%6)/3:Nat),((i%6)%3:Nat))
theorem G50(i:Nat):0<=(pl i).1/\(pl i).1<2/\0<=(pl i).2/\(pl i).2<3:=by
 unfold pl;simp only;omega
theorem G2r{M:A02}{t:Int}{i:Nat}(h:Inv M)(h0:0<=M.now)(h1:0<=M.top/\M.top<65535)(h2:M.now<=t/\t<=1073741824):nxt M t (pl i).1 (pl i).2=pl (i+1):=by
 have hp:=G50 i;rw[G36 h h0 h1 h2 ⟨hp.1,hp.2.1⟩ ⟨hp.2.2.1,hp.2.2.2⟩];unfold pl;simp only;split
 ·refine Prod.ext ?_ ?_<;>simp only<;>omega
 ·split
  ·refine Prod.ext ?_ ?_<;>simp only<;>omega
  ·refine Prod.ext ?_ ?_<;>simp only<;>omega
end Go.Zz
set_option maxRecDepth 20000
set_option linter.all false
namespace Go.Zz
open Go
variable {X : Y0}
theorem C7w{M:A02}{t:Int}(ns:List Int)(hs:ns.Pairwise (·<·))(hC:∀n,(M.C n).isSome=true↔n∈ns)(hp:∀n∈ns,n∈prom M t):A45 M t=ns.length:=
 (A9y ⟨hs,fun n=>⟨fun h=>⟨(hC n).2 h,.inr (.inl ⟨n,hp n h,.inl rfl⟩)⟩,fun h=>(hC n).1 h.1⟩⟩).symm
def exM(A:A64):A02:=⟨2,3,A,fun _=>none,none,[],List.replicate 16 tw0,[],0,0⟩
theorem D6l{A:A64}:Inv (exM A):=⟨(fun a e=>nomatch e),(fun x h=>nomatch h),(fun x h=>nomatch h),rfl,rfl⟩
theorem G21{A:A64}:A16 (exM A) (A14 (exM A) 0 0 0 0)=(0,A6b (exM A) 0 0 0):=B2v D6l (Int.le_refl _) ⟨Int.le_refl _,(by decide:(0:Int)<65535)⟩ ⟨Int.le_refl _,by decide⟩ ⟨by decide,by decide⟩ ⟨by decide,by decide⟩
theorem D7d{A:A64}:Inv (A6b (exM A) 0 0 0):=C71 D6l (Int.le_refl _) ⟨Int.le_refl _,(by decide:(0:Int)<65535)⟩ ⟨Int.le_refl _,by decide⟩ ⟨by decide,by decide⟩ ⟨by decide,by decide⟩
theorem C7x{A:A64}{t:Int}:A45 (A6b (exM A) 0 0 0) t=1:=by
 refine C7w [1] (by simp) (fun n=>?_) (fun n hn=>?_)
 ·simp[A6b,exM]
 ·simp at hn;subst hn;simp[prom,A6b,exM,pHas,A02.law,tMin,B2l,tOut,A8g]
theorem E3m{A:A64}{k:Kp}(hl:A.l=[k])(hk:k.r=⟨1,0,60⟩)(hn:A.nevers=false):A45 (A6b (A6b (exM A) 0 0 0) 10 0 0) 20=2:=by
 refine C7w [1,2] (by simp) (fun n=>?_) (fun n hn'=>?_)
 ·simp[A6b,exM];split<;>rename_i h
  ·simp;omega
  ·split<;>simp<;>omega
 ·simp at hn';rcases hn' with rfl|rfl
  ·simp[prom,A6b,exM,pHas,A02.law,tMin,B2l,tOut,A8g,B56,A8r,hl,B7i,hk,B8q,hn]
  ·simp[prom,A6b,exM,pHas,A02.law,tMin,B2l,tOut,A8g]
theorem G3b{A:A64}{k:Kp}(hl:A.l=[k])(hk:k.r=⟨1,0,60⟩)(hn:A.nevers=false):refL 2 10 100 11 (A6b (exM A) 0 0 0) 0 (0,0) true=(20,true):=by
 have e1:A16 (A6b (exM A) 0 0 0) (A14 (A6b (exM A) 0 0 0) 10 0 0 0)=(0,A6b (A6b (exM A) 0 0 0) 10 0 0):=B2v D7d (Int.le_refl 0) ⟨(by decide:(0:Int)<=0+1),(by decide:(0:Int)+1<65535)⟩ ⟨(by decide:(0:Int)<=10),by decide⟩ ⟨by decide,by decide⟩ ⟨by decide,by decide⟩
 rw[refL,if_neg (by omega),if_neg (by rw[C7x];decide)]
 have e0:B26 (A6b (exM A) 0 0 0) (0+10) (0,0) true=(0,0):=rfl;rw[e0];simp only[Int.zero_add];rw[e1,if_neg (by simp),refL,if_neg (by omega)]
 have e2:A45 (A6b (A6b (exM A) 0 0 0) 10 0 0) (10+10)=2:=E3m hl hk hn;rw[e2,if_pos (by decide)]
 rfl
end Go.Zz
set_option maxRecDepth 20000
set_option linter.all false
namespace Go.Zz
open Go
variable {X : Y0}
theorem eq_pt(a b a' b':Int):binV P .eql 33 (.agg #[.int .i64 a,.int .i64 b]) (.agg #[.int .i64 a',.int .i64 b'])=some (.bool ((a==a')&&((b==b')&&true))):=by kernel_rfl
theorem E24:bslN (some (72,3,24,[.int .i64 0,.int .i64 0,.int .i64 0])) 1 #[(0,.agg #[.int .i64 1,.int .i64 0,.int .i64 60])]=some (.cells [.int .i64 1,.int .i64 0,.int .i64 60] true,.slc 1 1):=by kernel_rfl
theorem F4q:bslN (some (3,1,8,[.int .i64 0])) 2 #[(0,.int .i64 0),(1,.int .i64 60)]=some (.cells [.int .i64 0,.int .i64 60] true,.slc 2 2):=by kernel_rfl
section
variable {s S : St} {o o' : Nat → Nat} {d : Nat → Prop} {c c2 m x t f b mc : Nat} {sl : Value} {M : A02} {Q : Post}
theorem A2z.zero(h:A2z s o):A2z s (fun _=>0):=let ⟨kb,l,h1,_,_,h4,h5⟩:=h;⟨kb,l,h1,rfl,rfl,h4,h5⟩
theorem Fd.back(h:Fd s S (fun _=>0) o' d)(h0:¬d 0):Old s S:=⟨h.chg.le,fun {b} hb=>h.chg.eq hb h0⟩
theorem A1h(hK:A2z s o)(hq:Q (.bool true) s):CC X 10 [] Q s:=by
 have hK:=hK.zero;generalize ho:(fun _:Nat=>0)=o0 at *;refine G3y rfl ?_
 try simp -implicitDefEqProofs (disch:=first|exact dsc|fail)[-D6g,E24]
 have oA:Old s (s.alloc (.cells [.int .i64 1,.int .i64 0,.int .i64 60] true)):=by simp
 have hv:A3m.In (s.alloc (.cells [.int .i64 1,.int .i64 0,.int .i64 60] true)) (.slice (some ⟨s.next,0,none⟩) 1 1) [⟨1,0,60⟩]:=Enc.In.made St.alloc_self (by simp) rfl rfl (by omega)
 generalize s.alloc (.cells [.int .i64 1,.int .i64 0,.int .i64 60] true)=s1 at *;have hK1:=hK.old oA;refine B7o hv.data hv.bel ?_
 try simp -implicitDefEqProofs (disch:=first|exact dsc|fail)[-D6g]
 refine C6k (o:=o0) 1 (by decide) hv (by simp) (by omega) (fun A m S1 o1 hM hA1 hA2 F1=>?_) (fun e S1 he hnr o1=>?_)
 ·try simp -implicitDefEqProofs (disch:=first|exact dsc|fail)[C8m]
  have hAl:∃k,A.l=[k]/\k.r=⟨1,0,60⟩:=by
   have e:([⟨1,0,60⟩]:List RuleM).filter (fun r=>!decide (r.kind=4))=[⟨1,0,60⟩]:=rfl;rw[e]at hA1;cases hl:A.l with
   | nil=>rw[hl]at hA1;cases hA1
   | cons k r=>
    rw[hl]at hA1;cases r with
    | nil=>simp only[List.map_cons,List.map_nil,List.cons.injEq,and_true]at hA1;exact⟨k,rfl,hA1⟩
    | cons _ _=>have:=congrArg List.length hA1;simp at this
  obtain⟨k0,hk1,hk2⟩:=hAl;have hk3:A.nevers=false:=hA2;have hM:C35 S1 o1 1 m (exM A):=hM;have oB:Old S1 (S1.alloc (.cells ((intE .u8).row (List.replicate 32 0)) false)):=by simp
  have fB:Fd S1 (S1.alloc (.cells ((intE .u8).row (List.replicate 32 0)) false)) o1 (tint o1 S1.next 0) (fun _=>False):=oB.tint
  have hI:Im (intE .u8) (S1.alloc (.cells ((intE .u8).row (List.replicate 32 0)) false)) (tint o1 S1.next 0) (.slice (some ⟨S1.next,0,none⟩) 32 32) (List.replicate 32 0):=⟨Enc.In.made (n:=32) St.alloc_self (by simp) rfl (by simp) (by omega),fun _ a l c e=>by cases e;exact A0d (Nat.le_refl _)⟩
  generalize tint o1 S1.next 0=o2 at *
  have hrow:(intE .u8).row (List.replicate 32 0)=List.replicate 32 (.int .u8 0):=rfl;rw[hrow]at oB fB hI;simp only[List.replicate]at oB fB;obtain⟨x,t,f,b,mc,sl,hM⟩:=hM;have hM2:=hM.fd fB (fun _ h=>h.elim) id;have hK2:=(hK1.fd F1 id).fd fB id;have F2:=oA.fd.trans (F1.trans fB);have hp0:¬inC 1 0:=by unfold inC;omega
  have hap:A16 (exM A) ⟨1,1,0,0,0,0,0,0,0,0,List.replicate 32 0⟩=(0,A6b (exM A) 0 0 0):=G21;refine A70 (k:=⟨1,1,0,0,0,0,0,0,0,0,List.replicate 32 0⟩) hK2 hM2 hI.1 (fun S o' F=>(hI.fd F hp0).1) fun S3 o3 f3 h3=>?_;rw[hap]at h3 ⊢;have hK3:=hK2.fd f3 hp0
  try simp -implicitDefEqProofs (disch:=first|exact dsc|fail)[]
  refine A2d (c2:=7) (r:=11) (by decide) hK3 h3 D7d (by decide) (by decide) (by show(100:Int)<0+((11:Nat):Int)*10;decide) fun S4 o4 f4=>?_
  have h4:=h3.fd f4 (fun k hk hk'=>by unfold in2 inC at *;omega) (by unfold in2;omega)
  have er:refL 2 10 100 11 (A6b (exM A) 0 0 0) (A6b (exM A) 0 0 0).now (0,0) true=(20,true):=G3b hk1 hk2 hk3;rw[er]
  try simp -implicitDefEqProofs (disch:=first|exact dsc|fail)[F4q]
  have oC:Old S4 (S4.alloc (.cells [.int .i64 0,.int .i64 60] true)):=by simp
  have hv2:(intE .i64).In (S4.alloc (.cells [.int .i64 0,.int .i64 60] true)) (.slice (some ⟨S4.next,0,none⟩) 2 2) [0,60]:=Enc.In.made St.alloc_self (by simp) rfl rfl (by omega)
  generalize S4.alloc _=S5 at *;refine A9p (h4.old oC) hv2 (by simp) fun v6 S6 h6=>?_
  have e6:([0,60].map fun t=>(t,(A45 (A6b (exM A) 0 0 0) t:Int)))=[(0,1),(60,1)]:=by
   simp only[List.map_cons,List.map_nil,C7x];rfl
  rw[e6]at h6;have oS6:=h6.old_;have hl6:=h6.in_.len (P:=P) A4z (s':=S6);have i0:=h6.in_.idx (q:=.i64) (ag:=true) (j:=0) (by decide) (by decide)
  have i1:=h6.in_.idx (q:=.i64) (ag:=true) (j:=1) (by decide) (by decide)
  have a0:=h6.in_.agg (i:=0) (by decide)
  have a1:=h6.in_.agg (i:=1) (by decide)
  simp[ptE]at i0 i1 a0 a1;simp only[List.length_cons,List.length_nil]at hl6
  try simp -implicitDefEqProofs (disch:=first|exact dsc|fail)[hl6,i0,i1,a0,a1,eq_pt]
  refine A9o (h4.old (oC.trans oS6)) ?_;have ht:((0,A6b (exM A) 0 0 0):Int×A02).2.top=1:=rfl;rw[ht]
  try simp -implicitDefEqProofs (disch:=first|exact dsc|fail)[]
  have F4:Fd s S4 o0 o4 (fun k=>k≠0):=((F2.mono (fun _ h=>h.elim)).trans (f3.mono (fun k hk=>by unfold inC at hk;show k≠0;omega))).trans (f4.mono (fun k hk=>by unfold in2 at hk;show k≠0;omega))
  subst ho;exact A0b (((F4.back (fun h=>h rfl)).trans oC).trans oS6) (.bool _) hq
 ·exact absurd ⟨by simp,by simp[A54,B2z]⟩ hnr
end
end Go.Zz
