import Derived.Test.YtnghaapdoanabaaGreatDoorWR2
set_option linter.all false
set_option maxRecDepth 20000
set_option linter.all false
namespace Go.Zz
open Go
variable {X : Y0}
structure Inv(M:MindM):Prop where
 idx:TOkT (fun x=>spOk x/\x.num<=M.top) M.X
 tab:∀x∈M.T,x.num<=M.top/\x.min<=M.now
 book:∀p∈M.L,p.min<=M.now
 sizes:M.vols=2/\M.blks=3
structure Less(M M':MindM):Prop where
 now:M'.now=M.now
 top:M'.top=M.top
 inv:Inv M->Inv M'
theorem Less.refl{M:MindM}:Less M M:=⟨rfl,rfl,id⟩
theorem Less.trans{M M' M'':MindM}(h:Less M M')(g:Less M' M''):Less M M'':=⟨g.now.trans h.now,g.top.trans h.top,fun i=>g.inv (h.inv i)⟩
theorem Less.setT{M:MindM}{T':List Item}(h:∀x∈T',∃y∈M.T,x.num=y.num/\x.min=y.min):Less M { M with T:=T' }:=
 ⟨rfl,rfl,fun i=>⟨i.idx,fun x hx=>by obtain⟨y,hy,e1,e2⟩:=h x hx;rw[e1,e2];exact i.tab y hy,i.book,i.sizes⟩⟩
theorem tRel_sub{T:List Item}{n:Int}:∀x∈(tRel T n).2,∃y∈T,x.num=y.num/\x.min=y.min:=by
 intro x hx;unfold tRel at hx;split at hx
 ·exact⟨x,hx,rfl,rfl⟩
 ·split at hx
  ·exact⟨x,hx,rfl,rfl⟩
  ·split at hx
   ·exact⟨x,hx,rfl,rfl⟩
   ·obtain⟨y,hy,rfl⟩:=List.mem_map.1 hx;exact⟨y,hy,by split<;>rfl,by split<;>rfl⟩
theorem tDrop_sub{T:List Item}{n:Int}:∀x∈(tDrop T n).2,∃y∈T,x.num=y.num/\x.min=y.min:=by
 intro x hx;unfold tDrop at hx;split at hx
 ·exact⟨x,hx,rfl,rfl⟩
 ·split at hx
  ·exact⟨x,(List.mem_filter.1 hx).1,rfl,rfl⟩
  ·exact⟨x,hx,rfl,rfl⟩
theorem bLift_sub{L:List PutM}{n:Int}:∀p∈bLift L n,p∈L:=by
 induction L with
 | nil=>simp[bLift]
 | cons q r ih=>
  intro p hp;unfold bLift at hp;split at hp
  ·exact List.mem_cons_of_mem _ hp
  ·rcases List.mem_cons.1 hp with rfl|hp
   ·simp
   ·exact List.mem_cons_of_mem _ (ih p hp)
theorem iDrop_ok{p:SpotM->Prop}{T:Option AN}{k:SpotM}(h:TOkT p T):TOkT p (iDrop T k).2:=by
 unfold iDrop;split
 ·exact tDel_ok h
 ·exact h
theorem Less.setX{M:MindM}{k:SpotM}:Less M { M with X:=(iDrop M.X k).2 }:=⟨rfl,rfl,fun i=>⟨iDrop_ok i.idx,i.tab,i.book,i.sizes⟩⟩
theorem Less.setL{M:MindM}{n:Int}:Less M { M with L:=bLift M.L n }:=⟨rfl,rfl,fun i=>⟨i.idx,i.tab,fun p hp=>i.book p (bLift_sub p hp),i.sizes⟩⟩
theorem Less.setC{M:MindM}{C':Int->Option CellM}:Less M { M with C:=C' }:=⟨rfl,rfl,fun i=>⟨i.idx,i.tab,i.book,i.sizes⟩⟩
theorem mdel_mem{α:Type}{l:List (Int×α)}{n:Int}{p:Int×α}(h:p∈mdel l n):p∈l:=by
 unfold mdel at h;split at h
 ·exact List.mem_of_mem_eraseIdx h
 ·exact h
section
variable {s S : St} {o o' : Nat → Nat} {d : Nat → Prop} {c m x t f b mc : Nat} {sl : Value} {M : MindM} {Q : Post}
structure FgI(s:St)(o:Nat->Nat)(c m x t f b mc:Nat)(sl:Value)(M:MindM)(n:Int)(S:St)(o':Nat->Nat)(M':MindM):Prop where
 fd:Fd s S o o' (inC c)
 mind:MindP S o' c m x t f b mc sl M'
 b0:Blk S s.next [.pointer (some ⟨m,0,none⟩)]
 b1:Blk S (s.next+1) [.int .u64 n]
 c0:o' s.next=0
 c1:o' (s.next+1)=0
 less:Less M M'
theorem FgI.step{n:Int}{S':St}{o'':Nat->Nat}{M' M'':MindM}(h:FgI s o c m x t f b mc sl M n S o' M')(g:Fd S S' o' o'' (inC c))(hM:MindP S' o'' c m x t f b mc sl M'')(hl:Less M' M''):FgI s o c m x t f b mc sl M n S' o'' M'':=
 have h0:¬inC c 0:=by have:=h.mind.pos;unfold inC;omega
 ⟨h.fd.trans g,hM,h.b0.fd g (by rw[h.c0];exact h0),h.b1.fd g (by rw[h.c1];exact h0),(g.col h.b0.lt).trans h.c0,(g.col h.b1.lt).trans h.c1,h.less.trans hl⟩
theorem FgI.old{n:Int}{S':St}{M':MindM}(h:FgI s o c m x t f b mc sl M n S o' M')(g:Old S S')(k:Nat):FgI s o c m x t f b mc sl M n S' (tint o' S.next k) M':=
 have g':Fd S S' o' (tint o' S.next k) (fun _=>False):=g.tint
 h.step (g'.mono (fun _ h=>h.elim)) (h.mind.fd g' (fun _ h=>h.elim) id) .refl
theorem FgJ1{n:Int}{M':MindM}(h:FgI s o c m x t f b mc sl M n S o' M')(hq:∀e S o' M',Fd s S o o' (inC c)->MindP S o' c m x t f b mc sl M'->Less M M'->Q (.int .i64 e) S):f54xJ1 (CC X) Q s (.pointer (some ⟨s.next,0,none⟩)) (.pointer (some ⟨s.next+1,0,none⟩)) S:=by
 have b0:=h.b0.eq;have b1:=h.b1.eq;have hb:=h.mind.heap
 try simp -implicitDefEqProofs (disch:=first|exact dsc|fail)[b0,b1,hb]
 obtain⟨⟨l3,m1,m2,m3⟩,m4,m5⟩:=h.mind.cells;refine m1.del fun S4 n1 n2 n3=>?_
 try simp -implicitDefEqProofs (disch:=first|exact dsc|fail)[]
 have f4:Fd S S4 o' o' (·=c+5):=⟨⟨by omega,fun {b} hb hn=>n3 (fun e=>hn (by rw[e];exact m4))⟩,fun _=>rfl⟩
 refine kEnd_keep (hq _ _ o' _ (h.fd.trans (f4.into (by omega))) (h.mind.setC (C':=fun k=>if k=n then none else M'.C k) ⟨⟨_,n1,fun p hp=>?_,fun k=>?_⟩,m4,fun k hk=>?_⟩ f4) (h.less.trans .setC))
 ·exact⟨(m2 p (mdel_mem hp)).1.fd f4 (by omega),(m2 p (mdel_mem hp)).2⟩
 ·rw[mget_mdel m1.nd];split
  ·rfl
  ·exact m3 k
 ·split at hk
  ·cases hk
  ·exact m5 k hk
theorem FgI.side{n:Int}{S':St}{M':MindM}{y:Nat}(h:FgI s o c m x t f b mc sl M n S o' M')(hy:s.next<=y)(hc:∀b,y<=b->o' b=c+6)(hn:S.next<=S'.next)(he:∀b,b<y->S'.heap b=S.heap b):FgI s o c m x t f b mc sl M n S' o' M':=by
 have g:Fd S S' o' o' (·=c+6):=⟨⟨hn,fun {b} hb hne=>he b (by
  rcases Nat.lt_or_ge b y with e|e
  ·exact e
  ·exact absurd (hc b e) hne)⟩,fun _=>rfl⟩
 exact⟨⟨⟨by have:=h.fd.chg.le;omega,fun {b} hb hne=>(he b (by omega)).trans (h.fd.chg.eq hb hne)⟩,h.fd.col⟩,h.mind.fd g (fun k e=>by subst e;unfold inC;omega) (by omega),h.b0.fd g (by rw[h.c0];omega),h.b1.fd g (by rw[h.c1];omega),h.c0,h.c1,h.less⟩
theorem FgJ4{n:Int}{M':MindM}{b5:Nat}{k:CellM}{v:Value}(h:FgI s o c m x t f b mc sl M n S o' M')(h5:Blk S b5 (cellL k v))(hq:∀e S o' M',Fd s S o o' (inC c)->MindP S o' c m x t f b mc sl M'->Less M M'->Q (.int .i64 e) S):f54xJ4 (CC X) Q s (.pointer (some ⟨s.next,0,none⟩)) (.pointer (some ⟨s.next+1,0,none⟩)) (.pointer (some ⟨b5,0,none⟩)) S:=by
 have b0:=h.b0.eq;have b1:=h.b1.eq;have hb:=h.mind.heap;have hb5:=h5.eq;unfold cellL at hb5;by_cases hk:k.kind=6
 ·try simp -implicitDefEqProofs (disch:=first|exact dsc|fail)[-f54xJ1,hb5,hk,b0,hb]
  refine bClone_spec h.mind.book fun b' vb ρb S1 n5 ot5 hB5 hBo hBn hBr=>?_;have hBook:BookC S1 (tint o' S.next (c+7)) (c+7) b' M'.L:=⟨vb,ρb,hB5,hBo,hBn,(let ⟨_,_,_,_,_,g,_⟩:=h.mind.book;g),tint_new n5,fun r hr=>tint_new (hBr r hr)⟩
  have h1:=h.old ot5 (c+7);generalize tint o' S.next (c+7)=oA at *
  have hle1:=ot5.le;have hns:=h.b1.lt
  try simp -implicitDefEqProofs (disch:=first|exact dsc|fail)[-f54xJ1]
  refine bAll_spec fun bx S2 hbx ot2 hbn=>?_;have hle2:=ot2.le;have h2:=h1.old ot2 (c+7);have hB2:=hBook.fd (ot2.tint (k:=c+7) (c:=fun _=>False)) id
  try simp -implicitDefEqProofs (disch:=first|exact dsc|fail)[-f54xJ1]
  refine f54xrf0xrange fun hY=>?_;have h3:=h2.old (.refl _) (c+6);have hB3:=hB2.fd ((Old.refl S2).tint (k:=c+6) (c:=fun _=>False)) id;have hcol:∀b,S2.next<=b->tint (tint oA S1.next (c+7)) S2.next (c+6) b=c+6:=fun b hb=>tint_new hb
  generalize tint (tint oA S1.next (c+7)) S2.next (c+6)=oB at *
  refine bAll_rf (B:=fun p Q S'=>f54xrf0xRB (CC X) Q S2.next (f54xrf0xL (.pointer (some ⟨s.next,0,none⟩)) (.pointer (some ⟨s.next+1,0,none⟩))) (.pointer (some ⟨s.next,0,none⟩)) (.pointer (some ⟨s.next+1,0,none⟩)) (.pointer (some ⟨S'.next,0,none⟩)) (S'.alloc (.cells (putE.cells p) false))) (cc:=fun b=>oB b=c+2)
   (R:=fun i Mb S9=>Mb=(fun _=>False)/\∃M9,FgI s o c m x t f b mc sl M n S9 oB M9) hB3 hbx (fun r hr e=>by omega) (fun i=>?_) (fun p Q s' hlt h1 h2=>hY _ _ _ h1 ?_) (fun i hi Mb S9 Q9 hR hch9 hyn9 hM9 hgo=>?_) ⟨rfl,_,h3⟩ (fun Mb S9 hR hch9 hM9=>?_)
  ·rintro Mb S9 S10 ⟨rfl,M9,h9⟩ hn he;exact⟨rfl,M9,h9.side (by omega) hcol hn (fun b hb=>he b (.inl hb))⟩
  ·simp -implicitDefEqProofs [-f54xrf0xRB,putV];rw[St.alloc_put hlt];exact⟨(St.alloc_old hlt).trans h1,h2.2⟩
  ·obtain⟨rfl,M9,h9⟩:=hR;have o10:Old S9 (S9.alloc (.cells (putE.cells M'.L[i]) false)):=by simp
   have h10:=h9.side (S':=S9.alloc (.cells (putE.cells M'.L[i]) false)) (y:=S2.next) (by omega) hcol o10.le (fun b hb=>o10.eq (by omega))
   have e5:(S9.alloc (.cells (putE.cells M'.L[i]) false)).heap S9.next=some (.cells (putE.cells M'.L[i]) false):=St.alloc_self
   have n10:(S9.alloc (.cells (putE.cells M'.L[i]) false)).next=S9.next+1:=by simp
   generalize S9.alloc (.cells (putE.cells M'.L[i]) false)=S10 at *;have d0:=h10.b0.eq;have d1:=h10.b1.eq;have d2:=h10.mind.heap;have e5':=e5;simp only[putE]at e5';by_cases hne:M'.L[i].num=n
   ·try simp -implicitDefEqProofs (disch:=first|exact dsc|fail)[e5',hne,d0,d1,d2]
    refine bLift_spec h10.mind.book fun S11 hL f11=>?_;have h11:=h10.step (f11.into (by omega)) (h10.mind.setL hL f11) .setL
    exact hgo (fun _=>False) S11 ⟨rfl,_,h11⟩ ⟨by have:=o10.le;have:=f11.chg.le;omega,fun {b} hb hn=>(f11.chg.eq (by have:=o10.le;omega) (fun e=>hn (.inl ⟨by
     rcases Nat.lt_or_ge b S2.next with g|g
     ·exact g
     ·rw[hcol b g]at e;omega,e⟩))).trans (o10.eq hb)⟩ (fun b hb=>hb.elim)
   ·try simp -implicitDefEqProofs (disch:=first|exact dsc|fail)[e5',hne,d0,d1,d2]
    exact hgo (fun _=>False) S10 ⟨rfl,_,h10⟩ (o10.chg) (fun b hb=>hb.elim)
  ·obtain⟨rfl,M9,h9⟩:=hR;simp -implicitDefEqProofs [-f54xJ1];exact FgJ1 h9 hq
 ·try simp -implicitDefEqProofs (disch:=first|exact dsc|fail)[-f54xJ1,hb5,hk]
  exact FgJ1 h hq
theorem Forget_spec{n:Int}(h:MindP s o c m x t f b mc sl M)(hq:∀e S o' M',Fd s S o o' (inC c)->MindP S o' c m x t f b mc sl M'->Less M M'->Q (.int .i64 e) S):CC X 54 [.pointer (some ⟨m,0,none⟩),.int .u64 n] Q s:=by
 have hq0:=hq;have hpos:=h.pos;refine f54xin rfl ?_;have hb:=h.heap;have hlt:=h.blk.lt;obtain⟨⟨l,m1,m2,m3⟩,m4,m5⟩:=h.cells;have hlk:=m1.look1 (n:=n) (z:=.agg #[.int .i64 0,.int .u64 0,.int .i64 0,.int .i64 0,.int .i64 0,.int .i64 0,.int .u64 0,.int .i64 0,.int .i64 0,.int .i64 0,.slice none 0 0])
 try simp -implicitDefEqProofs (disch:=first|exact dsc|fail)[-f54xJ1,-f54xJ4,-f54xJ5,-f54xJ6]
 generalize hs1:(s.alloc (.cells [.pointer (some ⟨m,0,none⟩)] false)).alloc (.cells [.int .u64 n] false)=s1;have o1:Old s s1:=by subst hs1;exact((Old.refl s).alloc).alloc
 have n1:s1.next=s.next+2:=by subst hs1;simp
 have b0:s1.heap s.next=some (.cells [.pointer (some ⟨m,0,none⟩)] false):=by subst hs1;simp -implicitDefEqProofs (disch:=first|exact dsc|fail)[]
 have b1:s1.heap (s.next+1)=some (.cells [.int .u64 n] false):=by subst hs1;simp -implicitDefEqProofs (disch:=first|exact dsc|fail)[]
 clear hs1;have F1:Fd s s1 o (tint o s.next 0) (fun _=>False):=o1.tint
 have hI:FgI s o c m x t f b mc sl M n s1 (tint o s.next 0) M:=⟨F1.mono (fun _ h=>h.elim),h.fd F1 (fun _ h=>h.elim) id,⟨by omega,b0⟩,⟨by omega,b1⟩,tint_new (Nat.le_refl _),tint_new (by omega),.refl⟩
 generalize tint o s.next 0=oA at *
 have hb1:=hI.mind.heap;have hlk1:=(m1.old o1).look1 (n:=n) (z:=.agg #[.int .i64 0,.int .u64 0,.int .i64 0,.int .i64 0,.int .i64 0,.int .i64 0,.int .u64 0,.int .i64 0,.int .i64 0,.int .i64 0,.slice none 0 0]);cases hg:mget l n with
 | none=>
  rw[hg]at hlk1
  try simp -implicitDefEqProofs (disch:=first|exact dsc|fail)[-f54xJ5,nil_ptr y_P_underlying_25,b0,b1,hb1,hlk1]
  exact kEnd_keep (hq _ _ _ _ (hI.old (by simp) 0).fd (hI.old (by simp) 0).mind .refl)
 | some p=>
  obtain⟨k,v⟩:=p;rw[hg]at hlk1;have hv:=(m2 _ (mget_mem hg));have hvd:=hv.1.1.data;unfold cvF cellV at hlk1
  try simp -implicitDefEqProofs (disch:=first|exact dsc|fail)[-f54xJ5,nil_ptr y_P_underlying_25,b0,b1,hb1,hlk1,hvd]
  have o2:Old s1 (s1.alloc (.cells (cellL k v) false)):=by simp
  have b2:(s1.alloc (.cells (cellL k v) false)).heap s1.next=some (.cells (cellL k v) false):=St.alloc_self
  have n2:(s1.alloc (.cells (cellL k v) false)).next=s1.next+1:=by simp
  unfold cellL at o2 b2 n2;generalize s1.alloc (.cells [.int .i64 k.kind,.int .u64 k.num,.int .i64 k.min,.int .i64 k.branch,.int .i64 k.vol,.int .i64 k.blk,.int .u64 k.ref,.int .i64 k.from,.int .i64 k.to,.int .i64 k.until_,v] false)=S2 at *
  have h2:=hI.old o2 0;have c2:tint oA s1.next 0 s1.next=0:=tint_new (Nat.le_refl _)
  generalize tint oA s1.next 0=oB at *
  refine Kept_spec h2.mind fun v3 S3 xs k1 k2 k3=>?_;have h3:=h2.old k1.old_ 0;have c3:tint oB S2.next 0 s1.next=0:=(tint_old (by omega)).trans c2
  have b3:=(k1.old_.eq (b:=s1.next) (by omega)).trans b2
  generalize tint oB S2.next 0=oC at *
  have e0:=h3.b0.eq;have e1:=h3.b1.eq
  try simp -implicitDefEqProofs (disch:=first|exact dsc|fail)[-f54xJ5,e0,e1]
  have hxl:xs.length<=((List.range 65536).map (fun i:Nat=>(i:Int))).length:=nodup_len (k2.imp (fun h=>by omega)) (fun q hq=>by
   have:=m5 q ((k3 q).1 hq).1;exact List.mem_map.2 ⟨q.toNat,List.mem_range.2 (by omega),by omega⟩)
  simp only[List.length_map,List.length_range]at hxl;refine Contains_u (k1.in_) (by omega) ?_
  by_cases hx:n∈xs
  ·try simp -implicitDefEqProofs (disch:=first|exact dsc|fail)[-f54xJ5,hx]
   exact kEnd_keep (hq _ _ _ _ h3.fd h3.mind h3.less)
  ·try simp -implicitDefEqProofs (disch:=first|exact dsc|fail)[-f54xJ5,hx]
   have hvd3:=hvd;have e2:=h3.mind.heap
   try simp -implicitDefEqProofs (disch:=first|exact dsc|fail)[-f54xJ4,b3,e0,e1,e2,hvd]
   refine Moment_spec (c:=k) (v:=v) ?_ hvd;have hlt3:s1.next<S3.next:=by have:=k1.old_.le;omega
   cases hm:decide (k.kind=1)||decide (k.kind=2)||decide (k.kind=3)
   ·try simp -implicitDefEqProofs (disch:=first|exact dsc|fail)[-f54xJ4,hm]
    rw[n1]at *;exact FgJ4 h3 ⟨hlt3,b3⟩ hq
   ·try simp -implicitDefEqProofs (disch:=first|exact dsc|fail)[-f54xJ4,hm,b3,e0,e1,e2,hvd]
    have hp0:¬inC c 0:=by unfold inC;omega
    refine iDrop_spec (k:=⟨k.branch,k.vol,k.blk,n⟩) h3.mind.idx (by omega) fun S4 o4 x4 f4=>?_
    have h4:=h3.step (f4.into (by omega)) (h3.mind.setX x4 f4) .setX
    have c4:=(f4.col hlt3).trans c3;have b4:=(f4.chg.eq (b:=s1.next) hlt3 (by rw[c3];omega)).trans b3
    have hlt4:s1.next<S4.next:=by have:=f4.chg.le;omega
    have d0:=h4.b0.eq;have d1:=h4.b1.eq;have d2:=h4.mind.heap
    try simp -implicitDefEqProofs (disch:=first|exact dsc|fail)[-f54xJ4,d0,d1,d2]
    refine tRel_spec h4.mind.tab fun S5 o5 x5 f5=>?_;have h5:=h4.step (f5.into (by omega)) (h4.mind.setT x5 f5) (.setT tRel_sub)
    have c5:=(f5.col hlt4).trans c4;have b5:=(f5.chg.eq (b:=s1.next) hlt4 (by rw[c4];omega)).trans b4
    have hlt5:s1.next<S5.next:=by have:=f5.chg.le;omega
    have g0:=h5.b0.eq;have g1:=h5.b1.eq;have g2:=h5.mind.heap
    try simp -implicitDefEqProofs (disch:=first|exact dsc|fail)[-f54xJ4,g0,g1,g2]
    refine tDrop_spec h5.mind.tab fun S6 o6 x6 f6=>?_;have h6:=h5.step (f6.into (by omega)) (h5.mind.setT x6 f6) (.setT tDrop_sub)
    have b6:=(f6.chg.eq (b:=s1.next) hlt5 (by rw[c5];omega)).trans b5
    have hlt6:s1.next<S6.next:=by have:=f6.chg.le;omega
    try simp -implicitDefEqProofs (disch:=first|exact dsc|fail)[-f54xJ4]
    rw[n1]at *;exact FgJ4 h6 ⟨hlt6,b6⟩ hq
end
end Go.Zz
set_option maxRecDepth 20000
set_option linter.all false
namespace Go.Zz
open Go
variable {X : Y0}
structure StepM where
 kind:Int
 br:Int
 vol:Int
 blk:Int
 a:Int
 b:Int
 d:Int
def stepE:Enc StepM 7:=⟨fun x=>[.int .i64 x.kind,.int .i64 x.br,.int .i64 x.vol,.int .i64 x.blk,.int .u64 x.a,.int .u64 x.b,.int .i64 x.d],fun _=>rfl⟩
section
variable {s S : St} {o o' : Nat → Nat} {d : Nat → Prop} {c m t' t f b mc : Nat} {sl : Value} {M : MindM} {Q : Post}
theorem pick_spec{v:Value}{xs:List Int}{k:Int}(hv:(intE .u64).In s v xs)(hl:xs.length<=1000000)(hk:0<=k)(hq:∀n,Q (.int .u64 n) s):CC X 55 [v,.int .u64 k] Q s:=by
 refine f55xin rfl ?_;have hln:=hv.len (P:=P) (s':=s) y_P_underlying_34;by_cases h0:xs.length=0
 ·try simp -implicitDefEqProofs (disch:=first|exact dsc|fail)[hln,h0]
  exact hq _
 ·have h1:k%xs.length=((k%xs.length).toNat:Int):=by
   rw[Int.toNat_of_nonneg (Int.emod_nonneg _ (by omega))]
  have h2:(k%xs.length).toNat<xs.length:=by have:=Int.emod_lt_of_pos k (b:=xs.length) (by omega);omega
  generalize hj:(k%xs.length).toNat=j at *;have hw:IntKind.u64.wrap (xs.length:Int)=xs.length:=wrap_u64 (by omega) (by omega)
  try simp -implicitDefEqProofs (disch:=first|exact dsc|fail)[hln,h0,hw]
  rw[h1]
  try simp -implicitDefEqProofs (disch:=first|exact dsc|fail)[hv.idx,hv.one,h2]
  exact hq _
theorem msl32:mslN (some (5,1,1,[.int .u8 0])) (.int .i64 32) (.int .i64 32)=some (.cells ([.int .u8 0,.int .u8 0,.int .u8 0,.int .u8 0,.int .u8 0,.int .u8 0,.int .u8 0,.int .u8 0,.int .u8 0,.int .u8 0,.int .u8 0,.int .u8 0,.int .u8 0,.int .u8 0,.int .u8 0,.int .u8 0,.int .u8 0,.int .u8 0,.int .u8 0,.int .u8 0,.int .u8 0,.int .u8 0,.int .u8 0,.int .u8 0,.int .u8 0,.int .u8 0,.int .u8 0,.int .u8 0,.int .u8 0,.int .u8 0,.int .u8 0,.int .u8 0]) false,.slc 32 32):=by kernel_rfl
theorem bsl117:bslN (some (5,1,1,[.int .u8 0])) 3 #[(0,.int .u8 1),(1,.int .u8 1),(2,.int .u8 7)]=some (.cells [.int .u8 1,.int .u8 1,.int .u8 7] true,.slc 3 3):=by kernel_rfl
def stepV(x:StepM):Value:=.agg #[.int .i64 x.kind,.int .i64 x.br,.int .i64 x.vol,.int .i64 x.blk,.int .u64 x.a,.int .u64 x.b,.int .i64 x.d]
theorem Cell41xspec{x:StepM}(h:MindP s o c m t' t f b mc sl M)(ha:0<=x.a)(hq:∀k v S o',Fd s S o o' (fun _=>False)->Im (intE .u8) S o' v k.body->k.num=M.top+1->k.min=M.now->Q (cellV k v) S):CC X 25 [.pointer (some ⟨m,0,none⟩),stepV x] Q s:=by
 have hb:=h.heap;have hlt:=h.blk.lt;have hnow:=h.now;have htop:=h.top;have hw:IntKind.u64.wrap (M.top+1)=M.top+1:=wrap_u64 (by omega) (by omega)
 unfold stepV;refine f25xin rfl ?_
 try simp -implicitDefEqProofs (disch:=first|exact dsc|fail)[-f25xJ1]
 refine Top_spec (h.old (by repeat (first|exact Old.refl _|apply Old.alloc))) ?_
 try simp -implicitDefEqProofs (disch:=first|exact dsc|fail)[-f25xJ1,hw]
 refine Now_spec (h.old (by repeat (first|exact Old.refl _|apply Old.alloc))) ?_
 try simp -implicitDefEqProofs (disch:=first|exact dsc|fail)[-f25xJ1]
 generalize hS:((s.alloc (.cells [.int .i64 x.kind,.int .i64 x.br,.int .i64 x.vol,.int .i64 x.blk,.int .u64 x.a,.int .u64 x.b,.int .i64 x.d] false)).alloc (.cells [.int .i64 0,.int .u64 0,.int .i64 0,.int .i64 0,.int .i64 0,.int .i64 0,.int .u64 0,.int .i64 0,.int .i64 0,.int .i64 0,.slice none 0 0] false)).alloc (.cells [.int .i64 0,.int .u64 (M.top+1),.int .i64 M.now,.int .i64 0,.int .i64 0,.int .i64 0,.int .u64 0,.int .i64 0,.int .i64 0,.int .i64 0,.slice none 0 0] false)=S;have oS:Old s S:=by subst hS;exact(((Old.refl s).alloc).alloc).alloc
 have nS:S.next=s.next+3:=by subst hS;simp
 have b0:S.heap s.next=some (.cells [.int .i64 x.kind,.int .i64 x.br,.int .i64 x.vol,.int .i64 x.blk,.int .u64 x.a,.int .u64 x.b,.int .i64 x.d] false):=by subst hS;simp -implicitDefEqProofs (disch:=first|exact dsc|fail)[]
 have b1:S.heap (s.next+1)=some (.cells [.int .i64 0,.int .u64 0,.int .i64 0,.int .i64 0,.int .i64 0,.int .i64 0,.int .u64 0,.int .i64 0,.int .i64 0,.int .i64 0,.slice none 0 0] false):=by subst hS;simp -implicitDefEqProofs (disch:=first|exact dsc|fail)[]
 have b2:S.heap (s.next+1+1)=some (.cells [.int .i64 0,.int .u64 (M.top+1),.int .i64 M.now,.int .i64 0,.int .i64 0,.int .i64 0,.int .u64 0,.int .i64 0,.int .i64 0,.int .i64 0,.slice none 0 0] false):=by subst hS;simp -implicitDefEqProofs (disch:=first|exact dsc|fail)[]
 have F1:Fd s S o (tint o s.next 1) (fun _=>False):=oS.tint
 have c1:∀k,k<3->tint o s.next 1 (s.next+k)=1:=fun k _=>tint_new (by omega)
 generalize tint o s.next 1=o1 at *
 have hS1:=h.fd F1 (fun _ h=>h.elim) id;have J:∀k v S' o',Fd S S' o1 o' (·=1)->S'.heap (s.next+1+1)=some (.cells (cellL k v) false)->S'.heap (s.next+1)=S.heap (s.next+1)->(∀b,b<s.next->S'.heap b=S.heap b)->Im (intE .u8) S' o' v k.body->k.num=M.top+1->k.min=M.now->f25xJ1 (CC X) Q s (.pointer (some ⟨s.next+1,0,none⟩)) (.pointer (some ⟨s.next+1+1,0,none⟩)) S':=by
  intro k v S' o' g1 g2 g3 g4 g5 g6 g7;rw[b1]at g3;unfold cellL at g2;have hd:=g5.1.data;have hle:=g1.chg.le
  try simp -implicitDefEqProofs (disch:=first|exact dsc|fail)[g2,g3,hd]
  have f6:∀y,Fd S' (S'.put (s.next+1) y) o' o' (·=1):=fun y=>⟨⟨by simp,fun {b} hb hn=>St.put_other (fun e=>hn (by rw[e];exact(g1.col (by omega)).trans (c1 1 (by omega))))⟩,fun _=>rfl⟩
  exact kEnd_keep (hq k v _ o' ⟨⟨by simp;omega,fun {b} hb hn=>(St.put_other (by omega)).trans ((g4 b hb).trans (oS.eq hb))⟩,fun {b} hb=>(g1.col (by omega)).trans (F1.col hb)⟩ (g5.fd (f6 _) (by omega)) g6 g7)
 have P1:∀(k:CellM) Sx ox,Fd S Sx o1 ox (fun _=>False)->k.num=M.top+1->k.min=M.now->k.body=[]->f25xJ1 (CC X) Q s (.pointer (some ⟨s.next+1,0,none⟩)) (.pointer (some ⟨s.next+1+1,0,none⟩)) (Sx.put (s.next+1+1) (.cells (cellL k (.slice none 0 0)) false)):=fun k Sx ox g h1 h2 h3=>by
  have hle:=g.chg.le;have f6:∀y,Fd Sx (Sx.put (s.next+1+1) y) ox ox (·=1):=fun y=>⟨⟨by simp,fun {b} hb hn=>St.put_other (fun e=>hn (by rw[e];exact(g.col (by omega)).trans (c1 2 (by omega))))⟩,fun _=>rfl⟩
  exact J k _ _ ox ((g.mono (fun _ h=>h.elim)).trans (f6 _)) St.put_self ((St.put_other (by omega)).trans (g.chg.eq (by omega) id)) (fun b hb=>(St.put_other (by omega)).trans (g.chg.eq (by omega) id)) (by rw[h3];exact .nil) h1 h2
 have P2:∀(k:CellM) Sx ox tl n v (vs:List Value),Fd S Sx o1 ox (fun _=>False)->k.num=M.top+1->k.min=M.now->vs=(intE .u8).row k.body->n=k.body.length->n<1000000->v=.slice (some ⟨Sx.next,0,none⟩) n n->f25xJ1 (CC X) Q s (.pointer (some ⟨s.next+1,0,none⟩)) (.pointer (some ⟨s.next+1+1,0,none⟩)) ((Sx.put (s.next+1+1) (.cells (cellL k v) false)).alloc (.cells vs tl)):=fun k Sx ox tl n v vs g h1 h2 h3 h4 h5 h6=>by
  have hle:=g.chg.le;have f6:∀y,Fd Sx (Sx.put (s.next+1+1) y) ox ox (·=1):=fun y=>⟨⟨by simp,fun {b} hb hn=>St.put_other (fun e=>hn (by rw[e];exact(g.col (by omega)).trans (c1 2 (by omega))))⟩,fun _=>rfl⟩
  have f7:∀y z,Fd (Sx.put (s.next+1+1) y) ((Sx.put (s.next+1+1) y).alloc z) ox (tint ox Sx.next 0) (·=1):=fun y z=>(Old.alloc (.refl _)).tint
  refine J k _ _ (tint ox Sx.next 0) (((g.mono (fun _ h=>h.elim)).trans (f6 _)).trans (f7 _ _)) ((St.alloc_old (by simp;omega)).trans St.put_self) ((St.alloc_old (by simp;omega)).trans ((St.put_other (by omega)).trans (g.chg.eq (by omega) id))) (fun b hb=>(St.alloc_old (by simp;omega)).trans ((St.put_other (by omega)).trans (g.chg.eq (by omega) id))) ?_ h1 h2
  subst h6;refine⟨Enc.In.made (b:=Sx.next) (tl:=tl) (by rw[St.alloc_at (by simp)]) (by simp) h3 h4 h5,fun _ a l c e=>?_⟩
  cases e;exact tint_new (Nat.le_refl _)
 by_cases k0:x.kind=0
 ·try simp -implicitDefEqProofs (disch:=first|exact dsc|fail)[-f25xJ1,k0,b0,b2,msl32]
  exact P2 ⟨1,M.top+1,M.now,x.br,x.vol,x.blk,0,0,0,0,IntKind.u8.wrap (M.top+1)::List.replicate 31 0⟩ S o1 _ 32 _ _ .refl rfl rfl rfl rfl (by omega) rfl
 ·by_cases k1:x.kind=1
  ·try simp -implicitDefEqProofs (disch:=first|exact dsc|fail)[-f25xJ1,k1,b0,b2]
   refine Now_spec hS1 ?_
   try simp -implicitDefEqProofs (disch:=first|exact dsc|fail)[-f25xJ1,b0]
   refine Keys_mind_spec hS1 fun v2 S2 xs k1 k2 _ _=>?_;have o2:=k1.old_;have hle2:=o2.le;have e0:=(o2.eq (b:=s.next) (by omega)).trans b0
   have e2:=(o2.eq (b:=s.next+1+1) (by omega)).trans b2
   try simp -implicitDefEqProofs (disch:=first|exact dsc|fail)[-f25xJ1,e0]
   refine pick_spec k1.in_ k2 ha fun n=>?_
   try simp -implicitDefEqProofs (disch:=first|exact dsc|fail)[-f25xJ1,e0,e2]
   exact P1 ⟨2,M.top+1,M.now,x.br,x.vol,x.blk,n,0,0,0,[]⟩ S2 _ o2.fd rfl rfl rfl
  ·by_cases k2:x.kind=2
   ·try simp -implicitDefEqProofs (disch:=first|exact dsc|fail)[-f25xJ1,k2,b0,b2,bsl117]
    refine Now_spec hS1 ?_
    try simp -implicitDefEqProofs (disch:=first|exact dsc|fail)[-f25xJ1,b0]
    refine Keys_mind_spec hS1 fun v2 S2 xs k1 k2 _ _=>?_;have o2:=k1.old_;have hle2:=o2.le;have e0:=(o2.eq (b:=s.next) (by omega)).trans b0
    have e2:=(o2.eq (b:=s.next+1+1) (by omega)).trans b2
    try simp -implicitDefEqProofs (disch:=first|exact dsc|fail)[-f25xJ1,e0]
    refine pick_spec k1.in_ k2 ha fun n=>?_
    try simp -implicitDefEqProofs (disch:=first|exact dsc|fail)[-f25xJ1,e0,e2,bsl117]
    exact P2 ⟨3,M.top+1,M.now,x.br,x.vol,x.blk,n,0,0,0,[1,1,7]⟩ S2 _ _ 3 _ _ o2.fd rfl rfl rfl rfl (by omega) rfl
   ·by_cases k4:x.kind=4
    ·try simp -implicitDefEqProofs (disch:=first|exact dsc|fail)[-f25xJ1,k4,b0,b2]
     refine Now_spec hS1 ?_
     try simp -implicitDefEqProofs (disch:=first|exact dsc|fail)[-f25xJ1,b0]
     refine Promised_spec hS1 fun v2 S2 k1=>?_;have hpl:=prom_len h (now:=M.now);have o2:=k1.old_;have hle2:=o2.le;have e0:=(o2.eq (b:=s.next) (by omega)).trans b0
     have e2:=(o2.eq (b:=s.next+1+1) (by omega)).trans b2
     try simp -implicitDefEqProofs (disch:=first|exact dsc|fail)[-f25xJ1,e0]
     refine pick_spec k1.in_ (by omega) ha fun n=>?_
     try simp -implicitDefEqProofs (disch:=first|exact dsc|fail)[-f25xJ1,e0,e2]
     exact P1 ⟨4,M.top+1,M.now,x.br,x.vol,0,n,0,0,0,[]⟩ S2 _ o2.fd rfl rfl rfl
    ·by_cases k5:x.kind=5
     ·try simp -implicitDefEqProofs (disch:=first|exact dsc|fail)[-f25xJ1,k5,b0,b2]
      have hp:=P1 ⟨5,M.top+1,M.now,x.br,0,0,0,0,0,0,[]⟩ S _ .refl rfl rfl rfl;rw[<-hS,St.alloc_put_new (by simp),k5]at hp
      exact hp
     ·by_cases k6:x.kind=6
      ·try simp -implicitDefEqProofs (disch:=first|exact dsc|fail)[-f25xJ1,k6,b0,b2]
       refine Now_spec hS1 ?_
       try simp -implicitDefEqProofs (disch:=first|exact dsc|fail)[-f25xJ1,b0,b2]
       refine Now_spec hS1 ?_
       try simp -implicitDefEqProofs (disch:=first|exact dsc|fail)[-f25xJ1,b0,b2]
       refine Now_spec hS1 ?_
       try simp -implicitDefEqProofs (disch:=first|exact dsc|fail)[-f25xJ1,b0,b2]
       exact P1 ⟨6,M.top+1,M.now,0,0,0,M.top+1,_,_,_,[]⟩ S _ .refl rfl rfl rfl
      ·by_cases k7:x.kind=7
       ·try simp -implicitDefEqProofs (disch:=first|exact dsc|fail)[-f25xJ1,k7,b0,b2]
        refine Nums_spec hS1 fun v2 S2 xs k1 k2 _ _=>?_;have o2:=k1.old_;have hle2:=o2.le;have e0:=(o2.eq (b:=s.next) (by omega)).trans b0
        have e2:=(o2.eq (b:=s.next+1+1) (by omega)).trans b2
        try simp -implicitDefEqProofs (disch:=first|exact dsc|fail)[-f25xJ1,e0]
        refine pick_spec k1.in_ (by omega) ha fun n=>?_
        try simp -implicitDefEqProofs (disch:=first|exact dsc|fail)[-f25xJ1,e0,e2]
        exact P1 ⟨7,M.top+1,M.now,0,0,0,n,0,0,0,[]⟩ S2 _ o2.fd rfl rfl rfl
       ·by_cases k9:x.kind=9
        ·try simp -implicitDefEqProofs (disch:=first|exact dsc|fail)[-f25xJ1,k9,b0,b2]
         have hp:=P1 ⟨8,M.top+1,M.now,0,0,0,0,0,0,0,[]⟩ S _ .refl rfl rfl rfl;rw[<-hS,St.alloc_put_new (by simp),k9]at hp
         exact hp
        ·try simp -implicitDefEqProofs (disch:=first|exact dsc|fail)[-f25xJ1,k0,k1,k2,k4,k5,k6,k7,k9,b0,b2]
         exact J ⟨0,M.top+1,M.now,0,0,0,0,0,0,0,[]⟩ (.slice none 0 0) S o1 .refl b2 rfl (fun _ _=>rfl) .nil rfl rfl
end
end Go.Zz
set_option maxRecDepth 20000
set_option linter.all false
namespace Go.Zz
open Go
variable {X : Y0}
section
variable {s S : St} {o o' : Nat → Nat} {d : Nat → Prop} {c m t' t f b mc : Nat} {sl : Value} {M : MindM} {Q : Post}
theorem Settle_spec(h:MindP s o c m t' t f b mc sl M)(hq:∀n S o' M',Fd s S o o' (inC c)->MindP S o' c m t' t f b mc sl M'->Less M M'->Q (.int .i64 n) S):CC X 24 [.pointer (some ⟨m,0,none⟩),.bool true] Q s:=by
 have hb:=h.heap;have hlt:=h.blk.lt;have hpos:=h.pos;refine f24xin rfl ?_
 try simp -implicitDefEqProofs (disch:=first|exact dsc|fail)[-f24xJ1,-f24xJ2,-f24xJ3,-f24xJ4,-f24xJ5,-f24xJ6,-f24xJ7,-f24xJ10,-f24xJ13,mapN]
 have F1:Fd s (s.alloc (.map [] [] 0)) o (tint o s.next (c+6)) (fun _=>False):=(Old.alloc (.refl _)).tint
 have hm1:MapR .u64 (fun _:Unit=>.bool true) (s.alloc (.map [] [] 0)) s.next []:=.new
 have c1:tint o s.next (c+6) s.next=c+6:=tint_new (Nat.le_refl _)
 have n1:(s.alloc (.map [] [] 0)).next=s.next+1:=by simp
 generalize tint o s.next (c+6)=o1 at *
 generalize s.alloc (.map [] [] 0)=s1 at *;have h1:=h.fd F1 (fun _ h=>h.elim) id;refine Now_spec h1 ?_
 try simp -implicitDefEqProofs (disch:=first|exact dsc|fail)[-f24xJ1,-f24xJ2,-f24xJ3,-f24xJ4,-f24xJ5,-f24xJ6,-f24xJ7,-f24xJ10,-f24xJ13]
 refine Promised_spec h1 fun v S2 k1=>?_;have F2:Fd s1 S2 o1 (tint o1 s1.next 0) (fun _=>False):=k1.old_.tint
 have hi2:=k1.im (o:=o1);have hm2:=hm1.old k1.old_;have c2:tint o1 s1.next 0 s.next=c+6:=(F2.col (by omega)).trans c1
 have hle2:=k1.old_.le;generalize tint o1 s1.next 0=o2 at *
 have h2:=h1.fd F2 (fun _ h=>h.elim) id;have hlen:=hi2.1.len (P:=P) y_P_underlying_34 (s':=S2);have hpl:=prom_len h (now:=M.now);generalize prom M M.now=xs at *
 try simp -implicitDefEqProofs (disch:=first|exact dsc|fail)[-f24xJ1,-f24xJ2,-f24xJ3,-f24xJ4,-f24xJ5,-f24xJ6,-f24xJ7,-f24xJ10,-f24xJ13,hlen]
 have FC:∀S3 o3 M3,Fd s S3 o o3 (inC c)->MindP S3 o3 c m t' t f b mc sl M3->Less M M3->f24xE1x2 (CC X) Q s (.pointer (some ⟨m,0,none⟩)) (.bool true) S3:=by
  intro S3 o3 M3 F3 h3 g3
  try simp -implicitDefEqProofs (disch:=first|exact dsc|fail)[-f24xJ1,-f24xJ2,-f24xJ3,-f24xJ4,-f24xJ5,-f24xJ6,-f24xJ7,-f24xJ10,-f24xJ13]
  refine Nums_spec h3 fun v S4 ns k1 k2 _ _=>?_;have f4:Fd S3 S4 o3 (tint o3 S3.next 0) (fun _=>False):=k1.old_.tint
  have hi:=k1.im (o:=o3);have hlen:=hi.1.len (P:=P) y_P_underlying_34 (s':=S4);generalize tint o3 S3.next 0=o4 at *
  have h4:=h3.fd f4 (fun _ h=>h.elim) id
  try simp -implicitDefEqProofs (disch:=first|exact dsc|fail)[-f24xJ1,-f24xJ2,-f24xJ3,-f24xJ4,-f24xJ5,-f24xJ6,-f24xJ7,-f24xJ10,-f24xJ13,hlen]
  refine f24xloop2 fun I hI=>?_;refine up (n:=ns.length) (M:=fun i=>∀S o' M' (g:Nat),g<=i->Fd s S o o' (inC c)->MindP S o' c m t' t f b mc sl M'->Less M M'->Im (intE .u64) S o' v ns->I (.pointer (some ⟨m,0,none⟩)) (.bool true) (.int .i64 g) v (.int .i64 ns.length) (.int .i64 i) S) (fun i hi ih S o' M' g hg F hM hl hv=>?_) 0 (Nat.zero_le _) S4 o4 M3 0 (Nat.le_refl _) (F3.trans (f4.mono (fun _ h=>h.elim))) h4 g3 hi;refine hI _ _ _ _ _ _ _ ?_;by_cases hlt:i<ns.length
  ·try simp -implicitDefEqProofs (disch:=first|exact dsc|fail)[-f24xJ1,-f24xJ2,-f24xJ3,-f24xJ4,-f24xJ5,-f24xJ6,-f24xJ7,-f24xJ10,-f24xJ13,hlt]
   try simp -implicitDefEqProofs (disch:=first|exact dsc|fail)[hv.1.idx,hv.1.one]
   refine Forget_spec hM fun e S5 o5 M5 f5 h5 g5=>?_;by_cases he:e=0
   ·try simp -implicitDefEqProofs (disch:=first|exact dsc|fail)[he]
    have:=ih hlt S5 o5 M5 (g+1) (by omega) (F.trans f5) h5 (hl.trans g5) (hv.fd f5 (by unfold inC;omega))
    simpa using this
   ·try simp -implicitDefEqProofs (disch:=first|exact dsc|fail)[he]
    exact ih hlt S5 o5 M5 g (by omega) (F.trans f5) h5 (hl.trans g5) (hv.fd f5 (by unfold inC;omega))
  ·try simp -implicitDefEqProofs (disch:=first|exact dsc|fail)[hlt]
   exact kEnd_keep (hq _ S o' M' F hM hl)
 have FB:∀S3 o3 l,Fd s S3 o o3 (fun _=>False)->MindP S3 o3 c m t' t f b mc sl M->SetR .u64 S3 s.next l->o3 s.next=c+6->f24xE0x0 (CC X) Q s (.pointer (some ⟨m,0,none⟩)) (.bool true) (.map (some s.next)) S3:=by
  intro S3 o3 l F3 h3 g3 c3
  try simp -implicitDefEqProofs (disch:=first|exact dsc|fail)[-f24xJ1,-f24xJ2,-f24xJ3,-f24xJ4,-f24xJ5,-f24xJ6,-f24xJ7,-f24xJ10,-f24xJ13]
  refine Nums_spec h3 fun v S4 ns k1 k2 _ _=>?_;have f4:Fd S3 S4 o3 (tint o3 S3.next 0) (fun _=>False):=k1.old_.tint
  have hi:=k1.im (o:=o3);have hlen:=hi.1.len (P:=P) y_P_underlying_34 (s':=S4);have c4:tint o3 S3.next 0 s.next=c+6:=(f4.col g3.lt).trans c3
  generalize tint o3 S3.next 0=o4 at *
  have h4:=h3.fd f4 (fun _ h=>h.elim) id
  try simp -implicitDefEqProofs (disch:=first|exact dsc|fail)[-f24xJ1,-f24xJ2,-f24xJ3,-f24xJ4,-f24xJ5,-f24xJ6,-f24xJ7,-f24xJ10,-f24xJ13,hlen]
  refine f24xloop1 fun I hI=>?_;refine up (n:=ns.length) (M:=fun i=>∀S o' M',Fd s S o o' (inC c)->MindP S o' c m t' t f b mc sl M'->Less M M'->Im (intE .u64) S o' v ns->SetR .u64 S s.next l->o' s.next=c+6->I (.pointer (some ⟨m,0,none⟩)) (.bool true) (.map (some s.next)) v (.int .i64 ns.length) (.int .i64 i) S) (fun i hi ih S o' M' F hM hl hv hs hc=>?_) 0 (Nat.zero_le _) S4 o4 M ((F3.trans f4).mono (fun _ h=>h.elim)) h4 .refl hi (g3.old k1.old_) c4
  refine hI _ _ _ _ _ _ _ ?_;by_cases hlt:i<ns.length
  ·try simp -implicitDefEqProofs (disch:=first|exact dsc|fail)[-f24xJ1,-f24xJ2,-f24xJ3,-f24xJ4,-f24xJ5,-f24xJ6,-f24xJ7,-f24xJ10,-f24xJ13,hlt]
   try simp -implicitDefEqProofs (disch:=first|exact dsc|fail)[hv.1.idx,hv.1.one]
   refine(Cell_get hM).get ns[i] _ S (.refl _) fun v5 S5 hN=>?_;have hd:=hN.in_.data;generalize ((M'.C ns[i]).getD cell0)=kk at *;have o5:=hN.old_;have n5:=o5.le;have o6:Old S5 (S5.alloc (.cells (cellL kk v5) false)):=by simp
   have f6:Fd S (S5.alloc (.cells (cellL kk v5) false)) o' (tint o' S.next 0) (fun _=>False):=(o5.trans o6).tint
   have c6:tint o' S.next 0 s.next=c+6:=(f6.col hs.lt).trans hc
   generalize tint o' S.next 0=o6' at *
   have h6:=hM.fd f6 (fun _ h=>h.elim) id;have hs6:=hs.old (o5.trans o6);have hv6:=hv.fd f6 id;unfold cellV cellL at *;by_cases hk:kk.kind<=3
   ·have hlk:=hs.look0 (n:=ns[i]) (z:=.bool false);have hlk6:=hs6.look0 (n:=ns[i]) (z:=.bool false);cases hg:mget l ns[i]with
    | none=>
     rw[hg]at hlk hlk6
     try simp -implicitDefEqProofs (disch:=first|exact dsc|fail)[-f24xJ1,-f24xJ2,-f24xJ3,-f24xJ4,-f24xJ5,-f24xJ6,-f24xJ7,-f24xJ10,-f24xJ13,hd,hk,hlk,hlk6]
     generalize S5.alloc _=S6 at *;refine Release_spec h6 fun e S7 o7 f7 h7=>?_
     try simp -implicitDefEqProofs (disch:=first|exact dsc|fail)[]
     exact ih hlt S7 o7 _ (((F.trans (f6.mono (fun _ h=>h.elim)))).trans f7) h7 (hl.trans (.setT tRel_sub)) (hv6.fd f7 (by unfold inC;omega)) (hs6.chg f7.chg (by rw[c6];unfold inC;omega)) ((f7.col hs6.lt).trans c6)
    | some u=>
     rw[hg]at hlk hlk6
     try simp -implicitDefEqProofs (disch:=first|exact dsc|fail)[hd,hk,hlk,hlk6]
     exact ih hlt _ o6' M' (F.trans (f6.mono (fun _ h=>h.elim))) h6 hl hv6 hs6 c6
   ·try simp -implicitDefEqProofs (disch:=first|exact dsc|fail)[hd,hk]
    exact ih hlt _ o6' M' (F.trans (f6.mono (fun _ h=>h.elim))) h6 hl hv6 hs6 c6
  ·try simp -implicitDefEqProofs (disch:=first|exact dsc|fail)[-f24xE1x2,hlt]
   exact FC S o' M' F hM hl
 refine f24xloop0 fun I hI=>?_;refine up (n:=xs.length) (M:=fun i=>∀S l,SetR .u64 S s.next l->Chg S2 S (·=s.next)->I (.pointer (some ⟨m,0,none⟩)) (.bool true) (.map (some s.next)) v (.int .i64 xs.length) (.int .i64 i) S) (fun i hi ih S l hs hch=>?_) 0 (Nat.zero_le _) S2 [] hm2 .refl
 refine hI _ _ _ _ _ _ _ ?_;have hle:=hch.le;have fS:Fd S2 S o2 o2 (·=c+6):=⟨hch.mono (fun b e=>by rw[e];exact c2),fun _=>rfl⟩
 have hv:=hi2.fd fS (by omega)
 by_cases hlt:i<xs.length
 ·try simp -implicitDefEqProofs (disch:=first|exact dsc|fail)[hlt,hv.1.idx,hv.1.one]
  refine hs.put (x:=()) rfl fun S4 m1 m2 m3=>?_
  try simp -implicitDefEqProofs (disch:=first|exact dsc|fail)[]
  exact ih hlt S4 _ m1 ⟨by omega,fun {b} hb hn=>(m3 hn).trans (hch.eq hb hn)⟩
 ·try simp -implicitDefEqProofs (disch:=first|exact dsc|fail)[-f24xE0x0,hlt]
  exact FB S o2 l ⟨⟨by omega,fun {b} hb hn=>(hch.eq (by omega) (by omega)).trans ((F1.trans F2).chg.eq hb hn)⟩,(F1.trans F2).col⟩ (h2.fd fS (fun k e=>by subst e;unfold inC;omega) (by omega)) hs c2
end
end Go.Zz
set_option maxRecDepth 20000
set_option linter.all false
namespace Go.Zz
open Go
structure InvN(M:MindM)(N t:Int):Prop where
 idx:TOkT (fun x=>spOk x/\x.num<=N) M.X
 tab:∀x∈M.T,x.num<=N/\x.min<=t
 book:∀p∈M.L,p.min<=t
 sizes:M.vols=2/\M.blks=3
theorem Inv.n{M:MindM}(h:Inv M){N t:Int}(hN:M.top<=N)(ht:M.now<=t):InvN M N t:=
 ⟨fun a e=>(h.idx a e).mono (fun x hx=>⟨hx.1,by have:=hx.2;omega⟩),fun x hx=>by have:=h.tab x hx;omega,fun p hp=>by have:=h.book p hp;omega,h.sizes⟩
theorem tAdd_mem{T:List Item}{n m:Int}{x:Item}(h:x∈(tAdd T n m).2):x∈T\/x=⟨n,m,false⟩:=by
 unfold tAdd at h;split at h
 ·exact .inl h
 ·split at h
  ·exact .inl h
  ·simpa using h
theorem tAdd_fail{T:List Item}{n m:Int}(h:(tAdd T n m).1≠0):(tAdd T n m).2=T:=by
 unfold tAdd at h ⊢;split
 ·rfl
 ·split
  ·rfl
  ·rename_i h1 h2;rw[if_neg h1,if_neg h2]at h;exact absurd rfl h
theorem bAdd_mem{L:List PutM}{id a d u num min:Int}{p:PutM}(h:p∈(bAdd L id a d u num min).2):p∈L\/p=⟨id,a,d,u,num,min⟩:=by
 unfold bAdd at h
 repeat' split at h
 all_goals first|exact .inl h|simpa using h
theorem bAdd_fail{L:List PutM}{id a d u num min:Int}(h:(bAdd L id a d u num min).1≠0):(bAdd L id a d u num min).2=L:=by
 unfold bAdd at h ⊢
 repeat' split
 all_goals first|rfl|(simp_all)
theorem iAt_num{p:SpotM->Prop}{T:Option AN}{k:SpotM}{n:Int}(h:TOkT p T)(ha:iAt T k=some n):∃x,p x/\x.num=n:=by
 unfold iAt at ha;split at ha
 ·next x hx=>
  split at ha
  ·exact⟨x,tFloor_ok h hx,by simpa using ha⟩
  ·cases ha
 ·cases ha
theorem iPut_new{M:MindM}{k:SpotM}{N:Int}(h:TOkT (fun x=>spOk x/\x.num<=N) M.X)(h0:k.num≠0)(hk:N<k.num):iPut M.X k=(0,some (tPut M.X k)):=by
 unfold iPut;rw[if_neg h0,if_neg];split
 ·next n hn=>
  obtain⟨x,hx,rfl⟩:=iAt_num h hn;have:=hx.2;simp;omega
 ·simp
theorem mKind_inv{M:MindM}{k:CellM}(h:Inv M)(hr:cRight k=true)(hn:M.top<k.num)(hm:M.now<=k.min) :
  InvN (mKind M k).2 k.num k.min/\((mKind M k).1≠0->Inv (mKind M k).2)/\(mKind M k).2.top=M.top/\(mKind M k).2.now=M.now:=by
 have hr':=hr;simp only[cRight,Bool.and_eq_true,decide_eq_true_eq,within]at hr';have hN:=h.n (N:=k.num) (t:=k.min) (by omega) (by omega)
 unfold mKind;by_cases k3:k.kind<=3
 ·rw[if_pos k3];have hp:=iPut_new (k:=cSpot k) h.idx (by simp only[cSpot];omega) (by simpa only[cSpot]using hn)
  have hA:InvN { M with T:=(tAdd M.T k.num k.min).2 } k.num k.min:=⟨hN.idx,fun x hx=>by
   rcases tAdd_mem hx with hx|rfl
   ·exact hN.tab x hx
   ·exact⟨Int.le_refl _,Int.le_refl _⟩,hN.book,hN.sizes⟩
  unfold mWrite;split
  ·next e=>exact⟨hA,fun _=>⟨h.idx,by simp only[tAdd_fail e];exact h.tab,h.book,h.sizes⟩,rfl,rfl⟩
  ·split
   ·rw[hp];exact⟨⟨fun a e=>by cases e;exact tPut_ok hN.idx ⟨cRight_place hr k3,Int.le_refl _⟩,hA.tab,hA.book,hA.sizes⟩,fun e=>absurd rfl e,rfl,rfl⟩
   ·exact⟨hA,fun e=>absurd rfl e,rfl,rfl⟩
 rw[if_neg k3];by_cases k4:k.kind=4
 ·rw[if_pos k4];exact⟨⟨hN.idx,hN.tab,hN.book,hN.sizes⟩,fun _=>⟨h.idx,h.tab,h.book,h.sizes⟩,rfl,rfl⟩
 rw[if_neg k4];by_cases k5:k.kind=5
 ·rw[if_pos k5];exact⟨⟨hN.idx,hN.tab,hN.book,hN.sizes⟩,fun _=>⟨h.idx,h.tab,h.book,h.sizes⟩,rfl,rfl⟩
 rw[if_neg k5];by_cases k6:k.kind=6
 ·rw[if_pos k6];exact⟨⟨hN.idx,hN.tab,fun p hp=>by
   rcases bAdd_mem hp with hp|rfl
   ·exact hN.book p hp
   ·exact Int.le_refl _,hN.sizes⟩,fun e=>⟨h.idx,h.tab,by simp only[bAdd_fail e];exact h.book,h.sizes⟩,rfl,rfl⟩
 rw[if_neg k6];by_cases k7:k.kind=7
 ·rw[if_pos k7];exact⟨⟨hN.idx,hN.tab,fun p hp=>hN.book p (bLift_sub p hp),hN.sizes⟩,fun _=>⟨h.idx,h.tab,fun p hp=>h.book p (bLift_sub p hp),h.sizes⟩,rfl,rfl⟩
 rw[if_neg k7];exact⟨hN,fun _=>h,rfl,rfl⟩
theorem mApply_inv{M:MindM}{k:CellM}(h:Inv M):Inv (mApply M k).2/\((mApply M k).2.top=M.top/\(mApply M k).2.now=M.now\/(mApply M k).2.top=k.num/\(mApply M k).2.now=k.min/\M.now<=k.min/\M.top<k.num):=by
 unfold mApply;split
 ·exact⟨h,.inl ⟨rfl,rfl⟩⟩
 ·next hr=>
  simp only[Bool.not_eq_true',Bool.not_eq_false]at hr;split
  ·exact⟨h,.inl ⟨rfl,rfl⟩⟩
  ·next hp=>
   split
   ·exact⟨h,.inl ⟨rfl,rfl⟩⟩
   ·obtain⟨g1,g2,g3,g4⟩:=mKind_inv h hr (by omega) (by omega)
    split
    ·next e=>exact⟨g2 e,.inl ⟨g3,g4⟩⟩
    ·exact⟨⟨g1.idx,g1.tab,g1.book,g1.sizes⟩,.inr ⟨rfl,rfl,by omega,by omega⟩⟩
theorem mTick_inv{M:MindM}{n:Int}(h:Inv M):Inv (mTick M n)/\(mTick M n).top=M.top/\((mTick M n).now=M.now\/(mTick M n).now=n):=by
 unfold mTick;split
 ·exact⟨h,rfl,.inl rfl⟩
 ·next hn=>
  have:=h.n (N:=M.top) (t:=n) (Int.le_refl _) (by omega)
  exact⟨⟨this.idx,this.tab,this.book,this.sizes⟩,rfl,.inr rfl⟩
end Go.Zz
set_option maxRecDepth 20000
set_option linter.all false
namespace Go.Zz
open Go
variable {X : Y0}
section
variable {s S : St} {o o' : Nat → Nat} {d : Nat → Prop} {c m t' t f b mc : Nat} {sl : Value} {M : MindM} {Q : Post}
theorem made_spec{v w:Value}{rs:List RuleM}{l:List StepM}(c:Nat)(hc:c≠0)(hK:KindsR s o)(hv:ruleE.In s v rs)(hw:∀S o',Fd s S o o' (inC c)->stepE.In S w l)(ha:∀x∈l,0<=x.a)
  (hno:Q (.pointer none) s) (hyes:∀m M S o',Fd s S o o' (inC c)->MindC S o' c m M->Inv M->M.top<=14->M.now<=14000->KindsR S o'->Q (.pointer (some ⟨m,0,none⟩)) S):CC X 9 [v,w] Q s:=by
 have hw0:=hw s o .refl;have hlen:=fun S'=>hw0.len (P:=P) y_P_underlying_23 (s':=S');have hrlen:=fun S'=>hv.len (P:=P) y_P_underlying_22 (s':=S');refine f9xin rfl ?_;by_cases h14:(14:Int)<l.length
 ·try simp -implicitDefEqProofs (disch:=first|exact dsc|fail)[-f9xJ1,-f9xJ2,-f9xJ3,-f9xJ4,-f9xJ5,-f9xJ8,-f9xJ9,-f9xJ12,hlen,hrlen,h14]
  exact hno
 ·by_cases h6:(6:Int)<rs.length
  ·try simp -implicitDefEqProofs (disch:=first|exact dsc|fail)[-f9xJ1,-f9xJ2,-f9xJ3,-f9xJ4,-f9xJ5,-f9xJ8,-f9xJ9,-f9xJ12,hlen,hrlen,h14,h6]
   exact hno
  ·try simp -implicitDefEqProofs (disch:=first|exact dsc|fail)[-f9xJ1,-f9xJ2,-f9xJ3,-f9xJ4,-f9xJ5,-f9xJ8,-f9xJ9,-f9xJ12,hlen,hrlen,h14,h6]
   try simp -implicitDefEqProofs (disch:=first|exact dsc|fail)[]
   refine f9xloop0 fun I hI=>?_;have FB:(∀x∈l,0<=x.d/\x.d<=1000)->f9xE0x0 (CC X) Q s v w s:=by
    intro hd
    try simp -implicitDefEqProofs (disch:=first|exact dsc|fail)[-f9xJ1,-f9xJ2,-f9xJ3,-f9xJ4,-f9xJ5,-f9xJ8,-f9xJ9,-f9xJ12]
    refine Setup_spec hv.data hv.bel ?_
    try simp -implicitDefEqProofs (disch:=first|exact dsc|fail)[-f9xJ1,-f9xJ2,-f9xJ3,-f9xJ4,-f9xJ5,-f9xJ8,-f9xJ9,-f9xJ12]
    refine New_spec (o:=o) c hc hv (by omega) (by omega) (fun A m S1 o1 hM hA1 hA2 F1=>?_) (fun e S1 he _ o1=>?_)
    ·try simp -implicitDefEqProofs (disch:=first|exact dsc|fail)[hlen]
     refine f9xloop1 fun I hI=>?_;refine up (n:=l.length) (M:=fun i=>∀S o' M,Fd s S o o' (inC c)->MindC S o' c m M->Inv M->M.top<=i->M.now<=1000*i->KindsR S o'->I (.pointer (some ⟨m,0,none⟩)) w (.int .i64 l.length) (.int .i64 i) S) (fun i hi ih S o' M F hM hI' ht hn hK=>?_) 0 (Nat.zero_le _) S1 o1 _ (F1.mono (fun _ h=>h.elim)) hM ⟨(fun a e=>nomatch e),(fun x h=>nomatch h),(fun x h=>nomatch h),rfl,rfl⟩ (Int.le_refl _) (Int.le_refl _) (hK.fd F1 id);refine hI _ _ _ _ _ ?_;have hwS:=hw S o' F;by_cases hlt:i<l.length
     ·have q2:=hwS.agg hlt;simp only[stepE]at q2;obtain⟨x,t,f,b,mc,sl,hM⟩:=hM;have hdi:=hd _ (List.getElem_mem hlt);have hai:=ha _ (List.getElem_mem hlt);generalize l[i]=y at *;obtain⟨ykind,ybr,yvol,yblk,ya,yb,yd⟩:=y;simp only at hdi hai q2;have hp0:¬inC c 0:=by unfold inC;omega
      have o2:Old S (S.alloc (.cells (stepE.cells ⟨ykind,ybr,yvol,yblk,ya,yb,yd⟩) false)):=by simp
      have f2:Fd S (S.alloc (.cells (stepE.cells ⟨ykind,ybr,yvol,yblk,ya,yb,yd⟩) false)) o' o' (fun _=>False):=o2.fd;have h2:=hM.old o2;have hK2:=hK.old o2;simp only[stepE]at o2 f2 h2 hK2;have b2:(S.alloc (.cells (stepE.cells ⟨ykind,ybr,yvol,yblk,ya,yb,yd⟩) false)).heap S.next=some (.cells (stepE.cells ⟨ykind,ybr,yvol,yblk,ya,yb,yd⟩) false):=St.alloc_self
      have n2:(S.alloc (.cells (stepE.cells ⟨ykind,ybr,yvol,yblk,ya,yb,yd⟩) false)).next=S.next+1:=by simp
      have F2:=F.trans (f2.mono (fun _ h=>h.elim));have hnow:=h2.now;simp only[stepE]at b2 n2 F2;by_cases k3:ykind=3
      ·try simp -implicitDefEqProofs (disch:=first|exact dsc|fail)[-f9xJ1,-f9xJ2,-f9xJ3,-f9xJ4,-f9xJ5,-f9xJ8,-f9xJ9,-f9xJ12,hlt]
       try simp -implicitDefEqProofs (disch:=first|exact dsc|fail)[-f9xJ3,hwS.idx,q2,k3]
       subst k3;generalize S.alloc _=S2 at *;refine Now_spec h2 ?_;have hw':IntKind.i64.wrap (M.now+yd)=M.now+yd:=wrap_i64 (by omega) (by omega)
       try simp -implicitDefEqProofs (disch:=first|exact dsc|fail)[-f9xJ3,b2,hw']
       refine Tick_spec h2 fun e S3 f3 h3=>?_
       try simp -implicitDefEqProofs (disch:=first|exact dsc|fail)[]
       obtain⟨i1,i2,i3⟩:=mTick_inv (n:=M.now+yd) hI';exact ih hlt S3 o' _ (F2.trans (f3.into (k:=0) (by omega))) ⟨_,_,_,_,_,_,h3⟩ i1 (by omega) (by omega) (hK2.fd f3 (by omega))
      ·by_cases k8:ykind=8
       ·try simp -implicitDefEqProofs (disch:=first|exact dsc|fail)[-f9xJ1,-f9xJ2,-f9xJ3,-f9xJ4,-f9xJ5,-f9xJ8,-f9xJ9,-f9xJ12,hlt]
        try simp -implicitDefEqProofs (disch:=first|exact dsc|fail)[-f9xJ3,hwS.idx,q2,k8]
        subst k8;generalize S.alloc _=S2 at *;refine Settle_spec h2 fun e S3 o3 M3 f3 h3 l3=>?_
        try simp -implicitDefEqProofs (disch:=first|exact dsc|fail)[]
        exact ih hlt S3 o3 _ (F2.trans f3) ⟨_,_,_,_,_,_,h3⟩ (l3.inv hI') (by have:=l3.top;omega) (by have:=l3.now;omega) (hK2.fd f3 hp0)
       ·try simp -implicitDefEqProofs (disch:=first|exact dsc|fail)[-f9xJ1,-f9xJ2,-f9xJ3,-f9xJ4,-f9xJ5,-f9xJ8,-f9xJ9,-f9xJ12,hlt]
        try simp -implicitDefEqProofs (disch:=first|exact dsc|fail)[-f9xJ3,hwS.idx,q2,k3,k8]
        generalize S.alloc _=S2 at *;refine Cell41xspec (x:=⟨ykind,ybr,yvol,yblk,ya,yb,yd⟩) h2 hai fun k v3 S3 o3 f3 hk1 hk2 hk3=>?_;have h3:=h2.fd f3 (fun _ h=>h.elim) id
        try simp -implicitDefEqProofs (disch:=first|exact dsc|fail)[-f9xJ3]
        refine Apply_spec (hK2.fd f3 id) h3 hk1.1 (fun S o' F=>(hk1.fd F hp0).1) fun S4 o4 f4 h4=>?_
        try simp -implicitDefEqProofs (disch:=first|exact dsc|fail)[]
        obtain⟨i1,i2⟩:=mApply_inv (k:=k) hI';exact ih hlt S4 o4 _ ((F2.trans (f3.mono (fun _ h=>h.elim))).trans f4) ⟨_,_,_,_,_,_,h4⟩ i1 (by omega) (by omega) ((hK2.fd f3 id).fd f4 hp0)
     ·try simp -implicitDefEqProofs (disch:=first|exact dsc|fail)[hlt]
      exact kEnd_keep (hyes m M S o' F hM hI' (by omega) (by omega) hK)
    ·try simp -implicitDefEqProofs (disch:=first|exact dsc|fail)[he]
     exact kEnd_back o1 (by simp) hno
   refine up (n:=l.length) (M:=fun i=>(∀j (hj:j<l.length),j<i->0<=l[j].d/\l[j].d<=1000)->I v w (.pointer none) (.int .i64 i) s) (fun i hi ih hd=>?_) 0 (Nat.zero_le _) (fun j hj h=>absurd h (by omega))
   refine hI _ _ _ _ _ ?_;by_cases hlt:i<l.length
   ·have q1:=hw0.fld (n:=1) hlt (k:=6) (by omega)
    simp only[stepE,List.getElem?_cons_succ,List.getElem?_cons_zero]at q1;by_cases g1:l[i].d<0
    ·try simp -implicitDefEqProofs (disch:=first|exact dsc|fail)[hlen,hlt,hw0.idx,hw0.fa,q1,g1]
     exact hno
    ·by_cases g2:1000<l[i].d
     ·try simp -implicitDefEqProofs (disch:=first|exact dsc|fail)[hlen,hlt,hw0.idx,hw0.fa,q1,g1,g2]
      exact hno
     ·try simp -implicitDefEqProofs (disch:=first|exact dsc|fail)[hlen,hlt,hw0.idx,hw0.fa,q1,g1,g2]
      exact ih hlt (fun j hj h=>by
       by_cases e:j=i
       ·subst e;omega
       ·exact hd j hj (by omega))
   ·try simp -implicitDefEqProofs (disch:=first|exact dsc|fail)[-f9xE0x0,hlen,hlt]
    exact FB (fun x hx=>by obtain⟨j,hj,rfl⟩:=List.getElem_of_mem hx;exact hd j hj (by omega))
end
end Go.Zz
