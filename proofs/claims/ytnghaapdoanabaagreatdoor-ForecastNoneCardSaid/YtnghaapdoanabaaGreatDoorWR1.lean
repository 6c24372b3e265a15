import Derived.Test.YtnghaapdoanabaaGreatDoorWQ1
set_option linter.all false
set_option maxRecDepth 20000
set_option linter.all false
namespace Go.Zz
open Go
variable {X : Y0}
def cvF(a:A1k×Value):Value:=A1r a.1 a.2
structure A94(s:St)(o:Nat->Nat)(c m:Nat)(G:Int->Option A1k):Prop where
 at_:∃l,MapR .u64 cvF s m l/\(∀p∈l,Im (intE .u8) s o p.2.2 p.2.1.body/\p.2.1.body.length<=100)/\∀n,(mget l n).map (·.1)=G n
 col:o m=c
 rng:∀n,(G n).isSome=true->1<=n/\n<=65535
theorem A94.fd{s S:St}{o o':Nat->Nat}{d:Nat->Prop}{c m:Nat}{G:Int->Option A1k}(h:A94 s o c m G)(g:Fd s S o o' d)(hd:¬d c)(hd0:¬d 0):A94 S o' c m G:=by
 obtain⟨⟨l,h1,h2,h3⟩,h4,h5⟩:=h;exact⟨⟨l,h1.chg g.chg (by rw[h4];exact hd),fun p hp=>⟨(h2 p hp).1.fd g hd0,(h2 p hp).2⟩,h3⟩,(g.col h1.lt).trans h4,h5⟩
structure A02 where
 vols:Int
 blks:Int
 A:A64
 C:Int->Option A1k
 X:Option AN
 T:List Item
 F:List Twig
 L:List PutM
 now:Int
 top:Int
def A02.law(M:A02):LawM:=⟨M.T,M.A,M.L,M.F⟩
def A10(vols blks:Int)(sl:Value)(A:A64)(mc x t f b:Nat)(now top:Int):List Value:=[.int .i64 vols,.int .i64 blks,sl,.int .i64 A.never,.bool A.nevers,.map (some mc),.pointer (some ⟨x,0,none⟩),.pointer (some ⟨t,0,none⟩),.pointer (some ⟨f,0,none⟩),.pointer (some ⟨b,0,none⟩),.int .i64 now,.int .u64 top]
structure A01(s:St)(o:Nat->Nat)(c m x t f b mc:Nat)(sl:Value)(M:A02):Prop where
 blk:Blk s m (A10 M.vols M.blks sl M.A mc x t f b M.now M.top)
 col:o m=c
 pos:c≠0
 law:LawC s o c t b f sl M.law
 idx:A21 s o (c+4) x M.X
 cells:A94 s o (c+5) mc M.C
 now:0<=M.now/\M.now<=1073741824
 top:0<=M.top/\M.top<=65535
 sizes:1<=M.vols/\M.vols<=8/\1<=M.blks/\M.blks<=256
def C35(s:St)(o:Nat->Nat)(c m:Nat)(M:A02):Prop:=∃x t f b mc sl,A01 s o c m x t f b mc sl M
def inC(c:Nat):Nat->Prop:=fun k=>c<=k/\k<c+6
theorem A01.fd{s S:St}{o o':Nat->Nat}{d:Nat->Prop}{c m x t f b mc:Nat}{sl:Value}{M:A02}(h:A01 s o c m x t f b mc sl M)(g:Fd s S o o' d)(hd:∀k,d k->¬inC c k)(hd0:¬d 0):A01 S o' c m x t f b mc sl M where
 blk:=h.blk.fd g (by rw[h.col];exact fun e=>hd _ e ⟨Nat.le_refl _,by omega⟩)
 col:=(g.col h.blk.lt).trans h.col
 pos:=h.pos
 law:=h.law.fd g hd0 (fun e=>hd _ e ⟨by omega,by omega⟩) (fun e=>hd _ e ⟨by omega,by omega⟩) (fun e=>hd _ e ⟨by omega,by omega⟩)
 idx:=h.idx.fd g (fun e=>hd _ e ⟨by omega,by omega⟩) hd0
 cells:=h.cells.fd g (fun e=>hd _ e ⟨by omega,by omega⟩) hd0
 now:=h.now
 top:=h.top
 sizes:=h.sizes
theorem A01.old{s S:St}{o:Nat->Nat}{c m x t f b mc:Nat}{sl:Value}{M:A02}(h:A01 s o c m x t f b mc sl M)(g:Old s S):A01 S o c m x t f b mc sl M:=h.fd (d:=fun _=>False) g.fd (fun _ h=>h.elim) (fun h=>h)
section
variable {s : St} {o : Nat → Nat} {c m : Nat} {M : A02} {Q : Post}
theorem B0i{k:A1k}{v:Value}(hv:(intE .u8).In s v k.body)(hl:k.body.length<=100)(hq:∀v' S,(intE .u8).New s S v' k.body->Q (A1r k v') S):CC X 36 [A1r k v] Q s:=by
 have hd:=hv.data;refine G1x rfl ?_;unfold A1r at *
 try simp -implicitDefEqProofs (disch:=first|exact dsc|fail)[hd]
 refine E99 (hv.old (by repeat (first|exact Old.refl _|apply Old.alloc))) (by omega) fun v' S hN=>?_
 obtain⟨ρ,w1,w2,w3⟩:=hN;have hd':=w1.in_.data;have hle:=w2.le;simp only[St.alloc_next]at hle w3;have b0:=(w2.eq (b:=s.next) (by simp;omega)).trans ((St.alloc_old (by simp)).trans St.alloc_self)
 have b1:=(w2.eq (b:=s.next+1) (by simp)).trans (St.alloc_at (by simp))
 try simp -implicitDefEqProofs (disch:=first|exact dsc|fail)[b0,b1,hd']
 refine A0a (hq v' _ ⟨ρ,w1.same (by simp) (fun b hb=>by
  have:=w3 b hb;rw[St.put_other (by omega),St.put_other (by omega)]),⟨by simp;omega,fun {b} hb=>?_⟩,fun b hb=>by have:=w3 b hb;omega⟩)
 rw[St.put_other (by omega),St.put_other (by omega),w2.eq (by simp;omega),St.alloc_old (by simp;omega),St.alloc_old hb]
theorem C7v{x t f b mc:Nat}{sl:Value}(h:A01 s o c m x t f b mc sl M):GetR X (.func (.func 52) #[.pointer (some ⟨m,0,none⟩)] #[]) s M.C:=by
 refine⟨⟨_,_,_,rfl⟩,fun n Q S o1 hq=>?_⟩;have hS:=h.old o1;obtain⟨l,h1,h2,h3⟩:=hS.cells.at_;have hb:=hS.blk;have hlt:=hb.lt;have hbe:=hb.eq;unfold A10 at hbe;simp -implicitDefEqProofs (disch:=first|exact dsc|fail)[A0u];refine G7a rfl ?_;have hg:=h3 n;have key:∀(k:A1k) (v:Value) (b:Bool),(intE .u8).In S v k.body->k.body.length<=100->(∀v S',(intE .u8).New S S' v k.body->Q (.tuple #[A1r k v,.bool b]) S')->(∀S2,Old S S2->B0y (some (.int .u64,.agg #[.int .i64 0,.int .u64 0,.int .i64 0,.int .i64 0,.int .i64 0,.int .i64 0,.int .u64 0,.int .i64 0,.int .i64 0,.int .i64 0,.slice none 0 0])) (.map (some mc)) (.int .u64 n) true S2=some (.tuple #[A1r k v,.bool b]))->G62 (CC X) Q (.pointer (some ⟨m,0,none⟩)) (.int .u64 n) S:=fun k v b hv hl hQ hlk=>by
  have hl1:=hlk (S.alloc (.cells [.int .i64 0,.int .u64 0,.int .i64 0,.int .i64 0,.int .i64 0,.int .i64 0,.int .u64 0,.int .i64 0,.int .i64 0,.int .i64 0,.slice none 0 0] false)) (by simp)
  have hd:=hv.data
  try simp -implicitDefEqProofs (disch:=first|exact dsc|fail)[A0j A0f,hbe,hl1]
  unfold A1r
  try simp -implicitDefEqProofs (disch:=first|exact dsc|fail)[hd]
  refine B0i (k:=k) (v:=v) (hv.old (by repeat (first|exact Old.refl _|apply Old.alloc))) hl fun v' S2 hN=>?_
  obtain⟨ρ,w1,w2,w3⟩:=hN;have hd':=w1.in_.data;have hle:=w2.le;simp only[St.alloc_next]at hle w3;have b0:=(w2.eq (b:=S.next) (by simp;omega)).trans ((St.alloc_old (by simp)).trans St.alloc_self)
  unfold A1r at *
  try simp -implicitDefEqProofs (disch:=first|exact dsc|fail)[b0,hd']
  refine A0a (hQ v' _ ⟨ρ,w1.same (by simp) (fun b hb=>by
   have:=w3 b hb;rw[St.put_other (by omega)]),⟨by simp;omega,fun {b} hb=>?_⟩,fun b hb=>by have:=w3 b hb;omega⟩)
  rw[St.put_other (by omega),w2.eq (by simp;omega),St.alloc_old (by simp;omega),St.alloc_old hb]
 cases hm:mget l n with
 | none=>
  rw[hm]at hg;rw[<-hg]at hq;refine key A7m (.slice none 0 0) false .nil (by simp[A7m]) hq fun S2 o2=>?_
  rw[(h1.old o2).look1,hm];rfl
 | some p=>
  rw[hm]at hg;rw[<-hg]at hq;have hmem:=B39 hm;obtain⟨k1,k2⟩:=h2 _ hmem;refine key p.1 p.2 true k1.1 k2 hq fun S2 o2=>?_;rw[(h1.old o2).look1,hm];rfl
def B5l{α:Type}{w:Nat}(E:Enc α w)(b3:Nat)(ρ0:Option Nat)(p:List α->Prop)(M:Nat->Prop)(S:St):Prop:=
 ∃v ρ xs,S.heap b3=some (.cells [v] false)/\E.Own S v ρ xs/\p xs/\ρ≠some b3/\((ρ=ρ0/\M=fun _=>False)\/M=Row ρ)
section
variable {α : Type} {w : Nat} {E : Enc α w} {b3 y : Nat} {p : List α → Prop} {M C : Nat → Prop} {S S2 : St} {v v' : Value} {ρ ρ' ρ0 : Option Nat} {xs ys : List α}
theorem B5l.stab(hb:b3<y)(h0:∀r,ρ0=some r->r<y):Stab y (B5l E b3 ρ0 p):=by
 rintro M S S' ⟨v,ρ,xs,h1,h2,h3,h4,h5⟩ hn he;refine⟨v,ρ,xs,(he b3 (.inl hb)).trans h1,h2.same hn (fun b hb=>he b ?_),h3,h4,h5⟩;rcases h5 with⟨e,_⟩|e
 ·exact .inl (h0 b (e▸hb))
 ·right;rw[e];exact hb
theorem B5l.step(hb:b3<y)(hc:C b3)(hc0:∀r,ρ0=some r->C r/\r<y)(hy:y<S.next)(hM:(ρ=ρ0/\M=fun _=>False)\/M=Row ρ)(hlt:∀b,M b->y<b/\b<S.next)(hne:ρ≠some b3)
  (w1:E.Own S2 v' ρ' ys) (w2:Chg S S2 (Row ρ)) (w3:∀b,ρ'=some b->ρ=some b\/S.next<=b) (hp:p ys) :
  ∃M',B5l E b3 ρ0 p M' (S2.put b3 (.cells [v'] false))/\Chg S (S2.put b3 (.cells [v'] false)) (fun b=>b<y/\C b\/M b)/\∀b,M' b->M b\/S.next<=b/\b<(S2.put b3 (.cells [v'] false)).next:=by
 have hne':ρ'≠some b3:=fun e=>(w3 b3 e).elim hne (fun e=>by omega)
 have hown:E.Own (S2.put b3 (.cells [v'] false)) v' ρ' ys:=w1.same (by simp) (fun b hb'=>St.put_other (fun e=>hne' (by rw[hb',e])))
 have hchg:Chg S (S2.put b3 (.cells [v'] false)) (fun b=>b<y/\C b\/M b):=⟨by simpa using w2.le,fun {b} hb' hm=>by
  rw[St.put_other (fun e=>hm (.inl ⟨by omega,by rw[e];exact hc⟩)),w2.eq hb' (fun e=>hm ?_)]
  have e:ρ=some b:=e;rcases hM with⟨e1,_⟩|e1
  ·obtain⟨g1,g2⟩:=hc0 b (e1▸e);exact .inl ⟨g2,g1⟩
  ·right;rw[e1];exact e⟩
 by_cases he:ρ'=ρ
 ·subst he;refine⟨M,⟨v',ρ',ys,St.put_self,hown,hp,hne',hM⟩,hchg,fun b h=>.inl h⟩
 ·refine⟨Row ρ',⟨v',ρ',ys,St.put_self,hown,hp,hne',.inr rfl⟩,hchg,fun b h=>?_⟩;have h:ρ'=some b:=h;rcases w3 b h with e|e
  ·exact absurd (h.trans e.symm) he
  ·right;refine⟨e,?_⟩;subst h;simpa using w1.lt
end
def prom(M:A02)(now:Int):List Int:=(M.T.map (·.num)).filter fun n=>pHas M.law n now
section
variable {x t f b mc : Nat} {sl : Value}
theorem A01.heap(h:A01 s o c m x t f b mc sl M):s.heap m=some (.cells [.int .i64 M.vols,.int .i64 M.blks,sl,.int .i64 M.A.never,.bool M.A.nevers,.map (some mc),.pointer (some ⟨x,0,none⟩),.pointer (some ⟨t,0,none⟩),.pointer (some ⟨f,0,none⟩),.pointer (some ⟨b,0,none⟩),.int .i64 M.now,.int .u64 M.top] false):=h.blk.eq
theorem A01.forest(h:A01 s o c m x t f b mc sl M):ForC s o (c+3) f M.F:=h.law.forest
theorem A01.tab(h:A01 s o c m x t f b mc sl M):TabC s o (c+1) t M.T:=h.law.tab
theorem A01.book(h:A01 s o c m x t f b mc sl M):A7r s o (c+2) b M.L:=h.law.book
theorem A01.sld(h:A01 s o c m x t f b mc sl M):data sl=true/\sl.cells=#[sl]:=let ⟨_,hk,_⟩:=h.law.auto.own;hk.in_.data
theorem A01.len(h:A01 s o c m x t f b mc sl M):M.T.length<=65535:=let ⟨_,hT,_,_⟩:=h.law.tab;hT.ok.len
theorem B38(h:A01 s o c m x t f b mc sl M){now:Int}:(prom M now).length<=65535:=Nat.le_trans (List.length_filter_le _ _) (by have:=h.len;simpa using this)
theorem E3x(h:A01 s o c m x t f b mc sl M)(hq:Q (lawV t b f sl M.A) s):CC X 60 [.pointer (some ⟨m,0,none⟩)] Q s:=by
 have hb:=h.heap;have hlt:=h.blk.lt;have hd:=h.sld;have hbel:Bel s.next sl:=let ⟨_,hk,_⟩:=h.law.auto.own;hk.in_.bel
 have h1:t<s.next:=let ⟨_,hT,_,_⟩:=h.law.tab;hT.lt.1
 have h2:b<s.next:=let ⟨_,_,hB,_⟩:=h.law.book;hB.lt
 have h3:f<s.next:=h.law.forest.blk.lt
 refine G24 rfl ?_
 try simp -implicitDefEqProofs (disch:=first|exact dsc|fail)[hb,hd]
 exact A0b (by simp) (by simp[hbel,h1,h2,h3]) hq
theorem A6h{now:Int}(h:A01 s o c m x t f b mc sl M)(hq:∀v S,(intE .u64).New s S v (prom M now)->Q v S):CC X 28 [.pointer (some ⟨m,0,none⟩),.int .i64 now] Q s:=by
 refine G8w rfl ?_
 try simp -implicitDefEqProofs (disch:=first|exact dsc|fail)[A0j A0f]
 refine E3x h ?_
 try simp -implicitDefEqProofs (disch:=first|exact dsc|fail)[]
 refine D3v h.law fun v S hN=>?_
 try simp -implicitDefEqProofs (disch:=first|exact dsc|fail)[]
 exact A0a (hq v S hN)
def H03(M:A02)(now n:Int):Prop:=(∃y∈A78 M.X,y.num=n/\A91 M.F M.X (prom M now) y=true)\/∃y∈A78 M.X,A91 M.F M.X (prom M now) y=true/\n∈A5k M.C 4 y.num
theorem A7l{now:Int}(h:A01 s o c m x t f b mc sl M)(hq:∀v S xs,(intE .u64).New s S v xs->xs.length<=1000000->xs.Pairwise (·<·)->(∀n,n∈xs↔H03 M now n)->Q v S):CC X 27 [.pointer (some ⟨m,0,none⟩),.int .i64 now] Q s:=by
 have hb:=h.heap;have hlt:=h.blk.lt;refine G6e rfl ?_
 try simp -implicitDefEqProofs (disch:=first|exact dsc|fail)[A0j A0f,hb,mkFn]
 refine A6h h fun v S hN=>?_;have hS:=h.old hN.old_;have hbS:=hS.heap;have hltS:=hS.blk.lt
 try simp -implicitDefEqProofs (disch:=first|exact dsc|fail)[hbS]
 have:=B38 h (now:=now);refine D71 hS.idx hS.law.forest hN.in_ (by omega) (C7v hS) fun v2 S2 xs k1 k2 k3 k4=>?_
 try simp -implicitDefEqProofs (disch:=first|exact dsc|fail)[]
 exact A0a (hq v2 S2 xs (k1.from hN.old_) k2 k3 k4)
theorem A06(h:A01 s o c m x t f b mc sl M)(hq:Q (.int .i64 M.now) s):CC X 13 [.pointer (some ⟨m,0,none⟩)] Q s:=by
 refine H0s rfl ?_
 try simp -implicitDefEqProofs (disch:=first|exact dsc|fail)[A0j A0f,h.heap]
 exact hq
theorem A9o(h:A01 s o c m x t f b mc sl M)(hq:Q (.int .u64 M.top) s):CC X 17 [.pointer (some ⟨m,0,none⟩)] Q s:=by
 refine G7k rfl ?_
 try simp -implicitDefEqProofs (disch:=first|exact dsc|fail)[A0j A0f,h.heap]
 exact hq
def C3j(M:A02)(now n:Int):Prop:=(M.C n).isSome=true/\(H03 M now n\/(∃p∈prom M now,n=p\/A81 M.T p=some n)\/(∃i:Nat,i≠0/\i<16/\fNum M.F i=some n)\/∃p∈M.L,now<p.until_/\n=p.num)
theorem C14{now:Int}(h:A01 s o c m x t f b mc sl M)(hq:∀v S xs,(intE .u64).New s S v xs->xs.Pairwise (·<·)->(∀n,n∈xs↔C3j M now n)->Q v S):CC X 12 [.pointer (some ⟨m,0,none⟩),.int .i64 now] Q s:=by
 have hb:=h.heap;have hlt:=h.blk.lt;refine G8n rfl ?_
 try simp -implicitDefEqProofs (disch:=first|exact dsc|fail)[-E5e,-E53,-E52,A0j A0f,hb]
 generalize hs1:(s.alloc (.cells [.pointer (some ⟨m,0,none⟩)] false)).alloc (.cells [.int .i64 now] false)=s1;have o1:Old s s1:=by subst hs1;exact((Old.refl s).alloc).alloc
 have n1:s1.next=s.next+2:=by subst hs1;simp
 have b0:s1.heap s.next=some (.cells [.pointer (some ⟨m,0,none⟩)] false):=by subst hs1;simp -implicitDefEqProofs (disch:=first|exact dsc|fail)[]
 have b1:s1.heap (s.next+1)=some (.cells [.int .i64 now] false):=by subst hs1;simp -implicitDefEqProofs (disch:=first|exact dsc|fail)[]
 clear hs1;have h1:=h.old o1;have hb1:=h1.heap
 try simp -implicitDefEqProofs (disch:=first|exact dsc|fail)[b0,b1,hb1]
 refine A7l h1 fun v2 S2 ks2 k1 k2 k3 k4=>?_;have o2:=k1.old_;have h2:=h1.old o2;have hle2:=o2.le;have hb2:=h2.heap;have e0:=(o2.eq (by omega)).trans b0
 have e1:=(o2.eq (by omega)).trans b1
 try simp -implicitDefEqProofs (disch:=first|exact dsc|fail)[e0,e1,hb2]
 refine A6h h2 fun v3 S3 k5=>?_;have o3:=k5.old_;have h3:=h2.old o3;have hle3:=o3.le;have hb3:=h3.heap;have f0:=(o3.eq (by omega)).trans e0
 have f1:=(o3.eq (by omega)).trans e1
 have hpl:=B38 h (now:=now)
 try simp -implicitDefEqProofs (disch:=first|exact dsc|fail)[f0,f1,hb3]
 refine D1z (k1.in_.old o3) k5.in_ k2 (by omega) h3.law.tab fun v4 S4 ys g1 g2 g3 g4=>?_
 have o4:=g1.old_;have h4:=h3.old o4;have hle4:=o4.le;have hb4:=h4.heap;have hlt4:=h4.blk.lt;have i0:=(o4.eq (by omega)).trans f0
 have i1:=(o4.eq (by omega)).trans f1
 have d4:=g1.in_.data
 try simp -implicitDefEqProofs (disch:=first|exact dsc|fail)[d4,i0,hb4]
 obtain⟨ρ4,w1,w2,w3⟩:=g1;have oA:Old s S4:=((o1.trans o2).trans o3).trans o4;have o5:Old S4 (S4.alloc (.cells [v4] false)):=by simp
 have b5:(S4.alloc (.cells [v4] false)).heap S4.next=some (.cells [v4] false):=St.alloc_self
 have n5:(S4.alloc (.cells [v4] false)).next=S4.next+1:=by simp
 generalize S4.alloc (.cells [v4] false)=S5 at *;have h5:=h4.old o5;have w5:=w1.same (s':=S5) o5.le (fun b hb=>o5.eq (by subst hb;exact w1.lt))
 have i0:=(o5.eq (by omega)).trans i0
 have i1:=(o5.eq (by omega)).trans i1
 refine C1z fun bx S6 hbx o6 hbn=>?_
 try simp -implicitDefEqProofs (disch:=first|exact dsc|fail)[]
 refine B89 fun hY=>?_;have hle6:=o6.le;have oS:Old s S6:=(oA.trans o5).trans o6;have c0:=(o6.eq (b:=s.next) (by omega)).trans i0
 have c1:=(o6.eq (b:=s.next+1) (by omega)).trans i1
 have c5:=(o6.eq (b:=S4.next) (by omega)).trans b5
 have hρ4:∀r,ρ4=some r->s.next+1<r/\r<S4.next:=fun r hr=>⟨by have:=w3 r hr;omega,by subst hr;exact w1.lt⟩
 have w6:=w5.same (s':=S6) o6.le (fun b hb=>o6.eq (by have:=hρ4 b hb;omega))
 have hfr:∀S7,Chg S6 S7 (fun b=>b=S4.next\/ρ4=some b)->A01 S7 (tint o s.next (c+6)) c m x t f b mc sl M:=fun S7 hch=>by
  have f1:Fd s S6 o (tint o s.next (c+6)) (fun _=>False):=oS.tint
  have f2:Fd S6 S7 (tint o s.next (c+6)) (tint o s.next (c+6)) (·=c+6):=⟨hch.mono (fun b e=>by
   rcases e with e|e
   ·rw[e];exact A0d (by omega)
   ·exact A0d (by have:=hρ4 b e;omega)),fun _=>rfl⟩
  exact(h.fd f1 (fun _ h=>h.elim) (fun h=>h)).fd f2 (fun k e=>by subst e;unfold inC;omega) (by omega)
 have h6:=hfr S6 .refl;have hltf:=h6.law.forest.blk.lt;refine D31 (cc:=fun b=>b=S4.next\/ρ4=some b) (R:=fun i=>B5l (intE .u64) S4.next ρ4 (fun xs=>xs.length<=ys.length+i/\∀n,n∈xs↔n∈ys\/∃j:Nat,j≠0/\j<i/\fNum M.F j=some n)) h6.forest hbx (fun e=>?_) (fun e=>?_) (fun i=>B5l.stab (by omega) (fun r hr=>by have:=hρ4 r hr;omega)) (fun n Q s' _ h1 h2=>hY _ _ _ h1 h2) (fun i hi hal Mb S7 Q7 hR hch hyn hM hgo=>?_) (fun i hi hal M7 S7 hR=>?_) ⟨v4,ρ4,ys,c5,w6,⟨by omega,fun n=>by simp⟩,fun e=>by have:=hρ4 _ e;omega,.inl ⟨rfl,rfl⟩⟩ (fun Mb S7 hR hch hM=>?_)
 ·have:=h.law.forest.blk.lt;rcases e with e|e
  ·omega
  ·have:=hρ4 f e;omega
 ·rcases e with e|e
  ·omega
  ·have:=hρ4 bx e;omega
 ·obtain⟨v7,ρ7,xs,q1,q2,⟨q3a,q3⟩,q4,q5⟩:=hR;have h7:=hfr S7 hch;have hb7:=h7.heap;have hle7:=hch.le;have hne:∀k,k<=s.next+1->¬(k=S4.next\/ρ4=some k):=fun k hk e=>by
   rcases e with e|e
   ·omega
   ·have:=hρ4 k e;omega
  have d0:=(hch.eq (b:=s.next) (by omega) (hne _ (by omega))).trans c0
  have hnum:fNum M.F i=some (twAt M.F i).num:=if_pos hal
  try simp -implicitDefEqProofs (disch:=first|exact dsc|fail)[d0,hb7]
  refine C1x h7.forest ?_;rw[hnum];by_cases hi0:i=0
  ·subst hi0
   try simp -implicitDefEqProofs (disch:=first|exact dsc|fail)[]
   refine hgo Mb S7 ⟨v7,ρ7,xs,q1,q2,⟨by omega,fun n=>(q3 n).trans ?_⟩,q4,q5⟩ .refl (fun b h=>.inl h)
   constructor
   ·rintro(h|⟨j,a,b,_⟩)
    ·exact .inl h
    ·omega
   ·rintro(h|⟨j,a,b,_⟩)
    ·exact .inl h
    ·omega
  ·have hi0':¬(i:Int)=0:=by omega
   try simp -implicitDefEqProofs (disch:=first|exact dsc|fail)[hi0,hi0',q1]
   refine q2.push (a:=(twAt M.F i).num) A1o A2m (by rfl) (by rfl) (by omega) (by omega) fun v8 S8 ρ8 r1 r2 r3=>?_
   have q1':=(r2.eq (by omega) (fun e=>q4 e)).trans q1
   have hle8:=r2.le;have d8:=r1.in_.data
   try simp -implicitDefEqProofs (disch:=first|exact dsc|fail)[q1',d8]
   obtain⟨M',a1,a2,a3⟩:=B5l.step (C:=fun b=>b=S4.next\/ρ4=some b) (y:=S6.next) (p:=fun xs=>xs.length<=ys.length+(i+1)/\∀n,n∈xs↔n∈ys\/∃j:Nat,j≠0/\j<i+1/\fNum M.F j=some n) (by omega) (.inl rfl) (fun r hr=>⟨.inr hr,by have:=hρ4 r hr;omega⟩) hyn q5 hM q4 r1 r2 r3 ⟨by simp;omega,fun n=>by
    rw[List.mem_append,List.mem_singleton,q3 n];constructor
    ·rintro((h|⟨j,a,b,e⟩)|h)
     ·exact .inl h
     ·exact .inr ⟨j,a,by omega,e⟩
     ·subst h;exact .inr ⟨i,hi0,by omega,hnum⟩
    ·rintro(h|⟨j,a,b,e⟩)
     ·exact .inl (.inl h)
     ·by_cases hji:j=i
      ·subst hji;rw[hnum]at e;cases e;exact .inr rfl
      ·exact .inl (.inr ⟨j,a,by omega,e⟩)⟩
   have:=hgo M' _ a1 a2 a3;rw[St.put_other (by omega)]at this
   exact this
 ·obtain⟨v7,ρ7,xs,q1,q2,⟨q3a,q3⟩,q4,q5⟩:=hR;have hnum:fNum M.F i=none:=if_neg (by rw[hal];simp)
  refine⟨v7,ρ7,xs,q1,q2,⟨by omega,fun n=>(q3 n).trans ?_⟩,q4,q5⟩
  constructor
  ·rintro(h|⟨j,a,b,e⟩)
   ·exact .inl h
   ·exact .inr ⟨j,a,by omega,e⟩
  ·rintro(h|⟨j,a,b,e⟩)
   ·exact .inl h
   ·by_cases hji:j=i
    ·subst hji;rw[hnum]at e;cases e
    ·exact .inr ⟨j,a,by omega,e⟩
 ·obtain⟨v7,ρ7,xs,q1,q2,⟨q3a,q3⟩,q4,q5⟩:=hR;have h7:=hfr S7 hch;have hb7:=h7.heap;have hle7:=hch.le;have hne:∀k,k<=s.next+1->¬(k=S4.next\/ρ4=some k):=fun k hk e=>by
   rcases e with e|e
   ·omega
   ·have:=hρ4 k e;omega
  have d0:=(hch.eq (b:=s.next) (by omega) (hne _ (by omega))).trans c0
  have d1:=(hch.eq (b:=s.next+1) (by omega) (hne _ (by omega))).trans c1
  have hρ7:∀r,ρ7=some r->s.next+1<r/\r<S7.next/\r≠S4.next:=fun r hr=>by
   refine⟨?_,by subst hr;exact q2.lt,fun e=>q4 (by rw[hr,e])⟩
   rcases q5 with⟨e,_⟩|e
   ·exact(hρ4 r (e▸hr)).1
   ·have:=hM r (by rw[e];exact hr);omega
  try simp -implicitDefEqProofs (disch:=first|exact dsc|fail)[d0,hb7]
  refine B1x fun bx2 S8 hbx2 o8 hbn2=>?_
  try simp -implicitDefEqProofs (disch:=first|exact dsc|fail)[]
  refine B8m fun hY2=>?_;have hle8:=o8.le;have l0:=(o8.eq (b:=s.next) (by omega)).trans d0
  have l1:=(o8.eq (b:=s.next+1) (by omega)).trans d1
  have l5:=(o8.eq (b:=S4.next) (by omega)).trans q1
  have w8:=q2.same (s':=S8) o8.le (fun r hr=>o8.eq (by have:=hρ7 r hr;omega))
  have hne2:∀k,k<=s.next+1->¬(k=S4.next\/ρ7=some k):=fun k hk e=>by
   rcases e with e|e
   ·omega
   ·have:=hρ7 k e;omega
  have hfr2:∀S9,Chg S8 S9 (fun b=>b=S4.next\/ρ7=some b)->A01 S9 (tint o s.next (c+6)) c m x t f b mc sl M:=fun S9 hch9=>by
   have f2:Fd S8 S9 (tint o s.next (c+6)) (tint o s.next (c+6)) (·=c+6):=⟨hch9.mono (fun b e=>by
    rcases e with e|e
    ·rw[e];exact A0d (by omega)
    ·exact A0d (by have:=hρ7 b e;omega)),fun _=>rfl⟩
   exact(h7.old o8).fd f2 (fun k e=>by subst e;unfold inC;omega) (by omega)
  have h8:=hfr2 S8 .refl;have hLlen:M.L.length<=64:=let ⟨_,_,_,_,_,g,_⟩:=h.book;g;refine B99 (B:=fun p Q S'=>B24 (CC X) Q S8.next (A9e (.pointer (some ⟨s.next,0,none⟩)) (.pointer (some ⟨s.next+1,0,none⟩)) (.pointer (some ⟨S4.next,0,none⟩))) (.pointer (some ⟨s.next+1,0,none⟩)) (.pointer (some ⟨S4.next,0,none⟩)) (.pointer (some ⟨S'.next,0,none⟩)) (S'.alloc (.cells (putE.cells p) false))) (cc:=fun b=>b=S4.next\/ρ7=some b)
   (R:=fun i=>B5l (intE .u64) S4.next ρ7 (fun zs=>zs.length<=xs.length+i/\∀n,n∈zs↔n∈xs\/∃p∈M.L.take i,now<p.until_/\n=p.num)) h8.book hbx2 (fun r hr e=>?_) (fun i=>B5l.stab (by omega) (fun r hr=>by have:=hρ7 r hr;omega)) (fun p Q s' hlt h1 h2=>hY2 _ _ _ h1 ?_) (fun i hi Mb S9 Q9 hR hch9 hyn9 hM9 hgo=>?_) ⟨v7,ρ7,xs,l5,w8,⟨by omega,fun n=>by simp⟩,q4,.inl ⟨rfl,rfl⟩⟩ (fun Mb S9 hR hch9 hM9=>?_)
  ·have:tint o s.next (c+6) r=c+6:=A0d (by
    rcases e with e|e
    ·omega
    ·have:=hρ7 r e;omega)
   omega
  ·simp -implicitDefEqProofs [-B24,putV];rw[St.alloc_put hlt];exact⟨(St.alloc_old hlt).trans h1,h2.2⟩
  ·obtain⟨v9,ρ9,zs,p1,p2,⟨p3a,p3⟩,p4,p5⟩:=hR;have m1:=(hch9.eq (b:=s.next+1) (by omega) (hne2 _ (by omega))).trans l1
   have htk:M.L.take (i+1)=M.L.take i++[M.L[i]]:=A2w hi;by_cases hu:now<M.L[i].until_
   ·try simp -implicitDefEqProofs (disch:=first|exact dsc|fail)[m1,hu,p1]
    have p2':=p2.same (s':=S9.alloc (.cells [.int .u64 M.L[i].id,.int .i64 M.L[i].from,.int .i64 M.L[i].to,.int .i64 M.L[i].until_,.int .u64 M.L[i].num,.int .i64 M.L[i].min] false)) (by simp) (fun r hr=>St.alloc_old (by subst hr;exact p2.lt))
    refine p2'.push (a:=M.L[i].num) A1o A2m (by rfl) (by rfl) (by omega) (by omega) fun v10 S10 ρ10 r1 r2 r3=>?_
    have p1':=(r2.eq (by simp;omega) (fun e=>p4 e)).trans ((St.alloc_old (by omega)).trans p1)
    have hle10:=r2.le;simp only[St.alloc_next]at hle10 r3;have d10:=r1.in_.data
    try simp -implicitDefEqProofs (disch:=first|exact dsc|fail)[p1',d10]
    obtain⟨M',a1,a2,a3⟩:=B5l.step (S:=S9) (C:=fun b=>b=S4.next\/ρ7=some b) (y:=S8.next) (p:=fun zs=>zs.length<=xs.length+(i+1)/\∀n,n∈zs↔n∈xs\/∃p∈M.L.take (i+1),now<p.until_/\n=p.num) (by omega) (.inl rfl) (fun r hr=>⟨.inr hr,by have:=hρ7 r hr;omega⟩) hyn9 p5 hM9 p4 r1 ⟨by omega,fun {b} hb hn=>by rw[r2.eq (by simp;omega) hn,St.alloc_old hb]⟩ (fun b hb=>(r3 b hb).imp id (fun e=>by omega)) ⟨by simp;omega,fun n=>by
     rw[List.mem_append,List.mem_singleton,p3 n,htk];simp only[List.mem_append,List.mem_singleton,or_and_right,exists_or,exists_eq_left,hu,true_and];exact or_assoc⟩
    have:=hgo M' _ a1 a2 a3;rw[St.put_other (by omega)]at this
    exact this
   ·try simp -implicitDefEqProofs (disch:=first|exact dsc|fail)[m1,hu]
    have o9:Old S9 (S9.alloc (.cells (putE.cells M.L[i]) false)):=by simp
    have hRr:B5l (intE .u64) S4.next ρ7 (fun zs=>zs.length<=xs.length+(i+1)/\∀n,n∈zs↔n∈xs\/∃p∈M.L.take (i+1),now<p.until_/\n=p.num) Mb (S9.alloc (.cells (putE.cells M.L[i]) false)):=⟨v9,ρ9,zs,(o9.eq (by omega)).trans p1,p2.same o9.le (fun r hr=>o9.eq (by subst hr;exact p2.lt)),⟨by omega,fun n=>by
     rw[p3 n,htk];simp only[List.mem_append,List.mem_singleton,or_and_right,exists_or,exists_eq_left,hu,false_and,or_false]⟩,p4,p5⟩
    have:=hgo Mb _ hRr o9.chg (fun b h=>.inl h);rw[St.alloc_put_old (by omega),St.alloc_old (by omega)]at this
    exact this
  ·obtain⟨v9,ρ9,zs,p1,p2,⟨p3a,p3⟩,p4,p5⟩:=hR;rw[List.take_length]at p3;have hle9:=hch9.le;have m0:=(hch9.eq (b:=s.next) (by omega) (hne2 _ (by omega))).trans l0
   have hρ9:∀r,ρ9=some r->s.next+1<r/\r<S9.next/\r≠S4.next:=fun r hr=>by
    refine⟨?_,by subst hr;exact p2.lt,fun e=>p4 (by rw[hr,e])⟩
    rcases p5 with⟨e,_⟩|e
    ·exact(hρ7 r (e▸hr)).1
    ·have:=hM9 r (by rw[e];exact hr);omega
   have h9:=hfr2 S9 hch9;have oS9:Old s S9:=((oS.trans_chg hch (fun b hb e=>hne b (by omega) e)).trans o8).trans_chg hch9 (fun b hb e=>hne2 b (by omega) e)
   have hfr3:∀S10,Chg S9 S10 (fun b=>b=S4.next\/ρ9=some b)->A01 S10 (tint o s.next (c+6)) c m x t f b mc sl M/\S10.heap s.next=some (.cells [.pointer (some ⟨m,0,none⟩)] false)/\Old s S10:=fun S10 hch10=>by
    have f2:Fd S9 S10 (tint o s.next (c+6)) (tint o s.next (c+6)) (·=c+6):=⟨hch10.mono (fun b e=>by
     rcases e with e|e
     ·rw[e];exact A0d (by omega)
     ·exact A0d (by have:=hρ9 b e;omega)),fun _=>rfl⟩
    have hne3:∀k,k<=s.next+1->¬(k=S4.next\/ρ9=some k):=fun k hk e=>by
     rcases e with e|e
     ·omega
     ·have:=hρ9 k e;omega
    exact⟨h9.fd f2 (fun k e=>by subst e;unfold inC;omega) (by omega),(hch10.eq (by omega) (hne3 _ (by omega))).trans m0,oS9.trans_chg hch10 (fun b hb e=>hne3 b (by omega) e)⟩
   try simp -implicitDefEqProofs (disch:=first|exact dsc|fail)[p1,mkFn,Value.oneCell']
   refine C2k (c:=fun n=>!(M.C n).isSome) p2 (by omega) (fun n hn Q10 S10 hch10 hQ=>?_) (fun v10 S10 r1 r2=>?_)
   ·obtain⟨h10,m10,_⟩:=hfr3 S10 (hch10.mono (fun b e=>.inr e));obtain⟨l,y1,y2,y3⟩:=h10.cells.at_;have hm10:=h10.heap;simp -implicitDefEqProofs (disch:=first|exact dsc|fail)[];refine G49 rfl ?_;have hg:=y3 n;cases hml:mget l n with
    | none=>
     rw[hml]at hg;have hlk:=y1.look1 (n:=n) (z:=.agg #[.int .i64 0,.int .u64 0,.int .i64 0,.int .i64 0,.int .i64 0,.int .i64 0,.int .u64 0,.int .i64 0,.int .i64 0,.int .i64 0,.slice none 0 0]);rw[hml]at hlk
     try simp -implicitDefEqProofs (disch:=first|exact dsc|fail)[m10,hm10,hlk]
     exact A0b (by repeat (first|exact Old.refl _|apply Old.alloc)) (.bool _) (by rw[<-hg]at hQ;simpa using hQ)
    | some pp=>
     rw[hml]at hg;have hlk:=y1.look1 (n:=n) (z:=.agg #[.int .i64 0,.int .u64 0,.int .i64 0,.int .i64 0,.int .i64 0,.int .i64 0,.int .u64 0,.int .i64 0,.int .i64 0,.int .i64 0,.slice none 0 0]);rw[hml]at hlk;have hdp:=(y2 _ (B39 hml)).1.1.data;unfold cvF A1r at hlk
     try simp -implicitDefEqProofs (disch:=first|exact dsc|fail)[m10,hm10,hlk,hdp]
     exact A0b (by repeat (first|exact Old.refl _|apply Old.alloc)) (.bool _) (by rw[<-hg]at hQ;simpa using hQ)
   ·have p1':=(r2.eq (by omega) (fun e=>p4 e)).trans p1
    have d10:=r1.in_.data
    try simp -implicitDefEqProofs (disch:=first|exact dsc|fail)[p1',d10]
    have r1':=r1.same (s':=S10.put S4.next (.cells [v10] false)) (by simp) (fun b hb=>St.put_other (fun e=>p4 (by rw[hb,e])))
    have hfl:(zs.filter fun n=>!!(M.C n).isSome).length<=zs.length:=List.length_filter_le _ _;refine C6t r1' (by omega) fun S11 ws t1 t2 t3 t4=>?_
    have hws:=t3.length_eq;have t5:=(t2.eq (by simp;have:=r2.le;omega) (fun e=>p4 e)).trans St.put_self
    try simp -implicitDefEqProofs (disch:=first|exact dsc|fail)[t5]
    refine C1o t1 (by omega) fun v12 S12 z1 z2=>?_
    try simp -implicitDefEqProofs (disch:=first|exact dsc|fail)[]
    have hchA:Chg S9 S12 (fun b=>b=S4.next\/ρ9=some b):=by
     refine⟨by have:=r2.le;have:=t2.le;have:=z2.le;simp at *;omega,fun {b} hb hn=>?_⟩
     rw[z2.eq (by have:=r2.le;have:=t2.le;simp at *;omega) (fun e=>hn (.inr e)),t2.eq (by have:=r2.le;simp;omega) (fun e=>hn (.inr e)),St.put_other (fun e=>hn (.inl e)),r2.eq hb (fun e=>hn (.inr e))]
    obtain⟨_,_,oS12⟩:=hfr3 S12 hchA;refine A0a (hq v12 S12 (dd ws) ⟨ρ9,z1,oS12,fun r hr=>by have:=hρ9 r hr;omega⟩ (B41 t4) (fun n=>?_))
    rw[C2y,t3.mem_iff,List.mem_filter];unfold C3j;rw[p3 n,q3 n,g4 n,k4 n];simp only[Bool.not_not];constructor
    ·rintro⟨((h|h)|h)|h,hc⟩
     ·exact⟨hc,.inl h⟩
     ·exact⟨hc,.inr (.inl h)⟩
     ·exact⟨hc,.inr (.inr (.inl h))⟩
     ·exact⟨hc,.inr (.inr (.inr h))⟩
    ·rintro⟨hc,h|h|h|h⟩
     ·exact⟨.inl (.inl (.inl h)),hc⟩
     ·exact⟨.inl (.inl (.inr h)),hc⟩
     ·exact⟨.inl (.inr h),hc⟩
     ·exact⟨.inr h,hc⟩
end
end
end Go.Zz
