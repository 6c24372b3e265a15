import Derived.Test.YtnghaapdoanabaaGreatDoorWR1
set_option linter.all false
set_option maxRecDepth 20000
set_option linter.all false
namespace Go.Zz
open Go
variable {X : Y0}
def A5s(a b vols blks:Int)(v:Value)(fi:Bool):List Value:=[.int .i64 a,.int .i64 b,.int .i64 vols,.int .i64 blks]++(List.replicate 32 (.int .u8 0)++[v,.bool fi])
section
variable {s : St} {o : Nat → Nat} {c m : Nat} {M : A02} {Q : Post}
theorem B7o{v:Value}(hv:data v=true/\v.cells=#[v])(hb:Bel s.next v)(hq:Q (.agg (A5s 4 4 2 3 v false).toArray) s):CC X 22 [v] Q s:=by
 refine G2b rfl ?_
 try simp -implicitDefEqProofs (disch:=first|exact dsc|fail)[hv,List.replicate]
 exact A0b (by simp) (by simp[hb]) hq
theorem C6k{a b vols blks:Int}{v:Value}{rs:List RuleM}{fi:Bool}(c:Nat)(hc:c≠0)(hv:A3m.In s v rs)(hlen:rs.length<1000000)(hsz:1<=vols/\vols<=8/\1<=blks/\blks<=256)
  (hok:∀A m S o',C35 S o' c m ⟨vols,blks,A,fun _=>none,none,[],List.replicate 16 tw0,[],0,0⟩->A.l.map (·.r)=rs.filter (fun r=>!decide (r.kind=4))->(A.nevers=rs.any fun r=>decide (r.kind=4))->Fd s S o o' (fun _=>False)->Q (.tuple #[.pointer (some ⟨m,0,none⟩),.int .i64 0]) S)
  (hbad:∀e S,e≠0->¬(rs.length<=16/\∀r∈rs,A54 r=true)->Old s S->Q (.tuple #[.pointer none,.int .i64 e]) S):CC X 21 [.agg (A5s a b vols blks v fi).toArray] Q s:=by
 have hd:=hv.data;refine G7e rfl ?_;have hsl:(A5s a b vols blks v fi).length=38:=by simp[A5s]
 have g2:∀h:2<(A5s a b vols blks v fi).length,(A5s a b vols blks v fi)[2]=.int .i64 vols:=fun _=>by simp[A5s]
 have g3:∀h:3<(A5s a b vols blks v fi).length,(A5s a b vols blks v fi)[3]=.int .i64 blks:=fun _=>by simp[A5s]
 have g36:∀h:36<(A5s a b vols blks v fi).length,(A5s a b vols blks v fi)[36]=v:=fun _=>by simp[A5s]
 have h1:¬vols<1:=by omega
 have h2:¬8<vols:=by omega
 have h3:¬blks<1:=by omega
 have h4:¬256<blks:=by omega
 try simp -implicitDefEqProofs (disch:=first|exact dsc|fail)[-B7b,-D6z,hsl,g2,g3,h1,h2,h3,h4]
 try simp -implicitDefEqProofs (disch:=first|exact dsc|fail)[-B7b,-D6z,hsl,g36]
 have o1:Old s (s.alloc (.cells (A5s a b vols blks v fi) false)):=by simp
 have b0:(s.alloc (.cells (A5s a b vols blks v fi) false)).heap s.next=some (.cells (A5s a b vols blks v fi) false):=St.alloc_self
 have n1:(s.alloc (.cells (A5s a b vols blks v fi) false)).next=s.next+1:=by simp
 generalize s.alloc (.cells (A5s a b vols blks v fi) false)=s1 at *
 try simp -implicitDefEqProofs (disch:=first|exact dsc|fail)[-B7b,hsl,g36,b0]
 refine C1n (o:=o) (hv.old o1) hlen (fun sl A S1 o1' hr1 hr2 hA hA2 hA3 f1=>?_) (fun e S1 he hnr o2=>?_)
 ·have hsd:data sl=true/\sl.cells=#[sl]:=let ⟨_,hk,_⟩:=hA.own;hk.in_.data;have hle1:=f1.chg.le;have e0:=(f1.chg.eq (b:=s.next) (by omega) (fun h=>h)).trans b0
  unfold C2x
  try simp -implicitDefEqProofs (disch:=first|exact dsc|fail)[-B7b,hsd]
  have oB:Old S1 (S1.alloc (.cells [sl,.int .i64 A.never,.bool A.nevers] false)):=by simp
  have b1:(S1.alloc (.cells [sl,.int .i64 A.never,.bool A.nevers] false)).heap S1.next=some (.cells [sl,.int .i64 A.never,.bool A.nevers] false):=St.alloc_self
  have n2:(S1.alloc (.cells [sl,.int .i64 A.never,.bool A.nevers] false)).next=S1.next+1:=by simp
  generalize S1.alloc (.cells [sl,.int .i64 A.never,.bool A.nevers] false)=S2 at *;have e0':=(oB.eq (by omega)).trans e0
  try simp -implicitDefEqProofs (disch:=first|exact dsc|fail)[mapN,e0',hsl,g2,g3,b1]
  refine D22 (o:=o1') (c+4) fun x S3 o3 f3 hI=>?_;have hle3:=f3.chg.le;have oC:=f3.chg.old (fun _ _ h=>h);have e03:=(oC.eq (by omega)).trans e0'
  have b13:=(oC.eq (by omega)).trans b1
  try simp -implicitDefEqProofs (disch:=first|exact dsc|fail)[mapN,e03,hsl,g2,g3,b13]
  refine D2l fun t S4 hT o4 hn4=>?_;have hle4:=o4.le;have e04:=(o4.eq (by omega)).trans e03
  have b14:=(o4.eq (by omega)).trans b13
  try simp -implicitDefEqProofs (disch:=first|exact dsc|fail)[mapN,e04,hsl,g2,g3,b14]
  refine D2f fun f S5 hn5 o5 hF=>?_;have hle5:=o5.le;have e05:=(o5.eq (by omega)).trans e04
  have b15:=(o5.eq (by omega)).trans b14
  try simp -implicitDefEqProofs (disch:=first|exact dsc|fail)[mapN,e05,hsl,g2,g3,b15]
  refine D4a fun b S6 hn6 o6 hB=>?_;have hle6:=o6.le;have e06:=(o6.eq (by omega)).trans e05
  have b16:=(o6.eq (by omega)).trans b15
  try simp -implicitDefEqProofs (disch:=first|exact dsc|fail)[mapN,e06,hsl,g2,g3,b16,hsd]
  have F1:Fd s S1 o o1' (fun _=>False):=o1.fd.trans f1;have F12:Fd S1 S2 o1' o1' (fun _=>False):=oB.fd;have F4:Fd S3 S4 o3 (tint o3 S3.next (c+1)) (fun _=>False):=o4.tint
  have F5:Fd S4 S5 (tint o3 S3.next (c+1)) (tint (tint o3 S3.next (c+1)) S4.next (c+3)) (fun _=>False):=o5.tint
  have T4:TabC S4 (tint o3 S3.next (c+1)) (c+1) t []:=⟨none,hT,A0d hn4,fun b e=>by cases e⟩
  generalize tint o3 S3.next (c+1)=oc4 at *
  have T5:ForC S5 (tint oc4 S4.next (c+3)) (c+3) f (List.replicate 16 tw0):=⟨hF,by simp,A0d hn5⟩
  generalize tint oc4 S4.next (c+3)=oc5 at *
  have F6:Fd S5 S6 oc5 (tint oc5 S5.next (c+2)) (fun _=>False):=o6.tint
  have T6:A7r S6 (tint oc5 S5.next (c+2)) (c+2) b []:=⟨_,none,hB,.nil,by simp,by simp,A0d hn6,fun r e=>by cases e⟩
  generalize tint oc5 S5.next (c+2)=oc6 at *
  have F7:Fd S6 (S6.alloc (.map [] [] 0)) oc6 (tint oc6 S6.next (c+5)) (fun _=>False):=(Old.alloc (.refl _)).tint
  have T7:A94 (S6.alloc (.map [] [] 0)) (tint oc6 S6.next (c+5)) (c+5) S6.next (fun _=>none):=⟨⟨[],.new,by simp,fun n=>by simp[mget,ixOf]⟩,A0d (Nat.le_refl _),fun n h=>by cases h⟩
  generalize tint oc6 S6.next (c+5)=oc7 at *
  have n7:(S6.alloc (.map [] [] 0)).next=S6.next+1:=by simp
  generalize S6.alloc (.map [] [] 0)=S7 at *;have F8:∀y,Fd S7 (S7.alloc y) oc7 (tint oc7 S7.next c) (fun _=>False):=fun y=>(Old.alloc (.refl _)).tint
  rw[<-n7];refine A0a (hok A S7.next _ (tint oc7 S7.next c) ⟨x,t,f,b,S6.next,sl,⟨⟨by simp,by simp[A10]⟩,A0d (Nat.le_refl _),hc,⟨?_,?_,?_,?_⟩,?_,?_,by simp,by simp,hsz⟩⟩ hA2 hA3 ((((((((F1.trans F12).trans f3).trans F4).trans F5).trans F6).trans F7).trans (F8 _))))
  ·exact(((T4.fd F5 id).fd F6 id).fd F7 id).fd (F8 _) id
  ·exact((((((hA.fd F12 id).fd f3 id).fd F4 id).fd F5 id).fd F6 id).fd F7 id).fd (F8 _) id
  ·exact(T6.fd F7 id).fd (F8 _) id
  ·exact((T5.fd F6 id).fd F7 id).fd (F8 _) id
  ·exact((((hI.fd F4 id id).fd F5 id id).fd F6 id id).fd F7 id id).fd (F8 _) id id
  ·exact T7.fd (F8 _) id id
 ·try simp -implicitDefEqProofs (disch:=first|exact dsc|fail)[-B7b,he]
  exact A0a (hbad e _ he hnr ((o1.trans o2).alloc))
end
def kFn(k:Int):Value:=if k<=3 then .func (.func 235) #[] #[]else if k=4 then .func (.func 236) #[] #[]else if k=5 then .func (.func 238) #[] #[]else if k=6 then .func (.func 240) #[] #[]else if k=7 then .func (.func 242) #[] #[]else .func (.func 243) #[] #[]
def A2z(s:St)(o:Nat->Nat):Prop:=∃kb l,Blk s 0 [.map (some kb)]/\o 0=0/\o kb=0/\MapR .i64 (fun v:Value=>v) s kb l/\∀k,1<=k->k<=8->mget l k=some (kFn k)
theorem A2z.fd{s S:St}{o o':Nat->Nat}{d:Nat->Prop}(h:A2z s o)(g:Fd s S o o' d)(hd:¬d 0):A2z S o':=by
 obtain⟨kb,l,h1,h2,h3,h4,h5⟩:=h;exact⟨kb,l,h1.fd g (by rw[h2];exact hd),(g.col h1.lt).trans h2,(g.col h4.lt).trans h3,h4.chg g.chg (by rw[h3];exact hd),h5⟩
theorem A2z.old{s S:St}{o:Nat->Nat}(h:A2z s o)(g:Old s S):A2z S o:=h.fd (d:=fun _=>False) g.fd id
def B0x(k:A1k):A0t:=⟨k.branch,k.vol,k.blk,k.num⟩
def B4w(M:A02)(k:A1k):Int×A02:=
 if(tAdd M.T k.num k.min).1≠0 then((tAdd M.T k.num k.min).1,{ M with T:=(tAdd M.T k.num k.min).2 })
 else if A2v M.F k.branch then((iPut M.X (B0x k)).1,{ M with T:=(tAdd M.T k.num k.min).2,X:=(iPut M.X (B0x k)).2 })
 else(0,{ M with T:=(tAdd M.T k.num k.min).2 })
def A59(M:A02)(k:A1k):Int×A02:=
 if k.kind<=3 then B4w M k
 else if k.kind=4 then((B3b M.F k.branch k.vol k.ref k.num).1,{ M with F:=(B3b M.F k.branch k.vol k.ref k.num).2 })
 else if k.kind=5 then((B6i M.F k.branch).1,{ M with F:=(B6i M.F k.branch).2 })
 else if k.kind=6 then((bAdd M.L k.ref k.from k.to k.until_ k.num k.min).1,{ M with L:=(bAdd M.L k.ref k.from k.to k.until_ k.num k.min).2 })
 else if k.kind=7 then(if M.L.any (fun p=>decide (p.id=k.ref))then 0 else 4,{ M with L:=B3a M.L k.ref })
 else(0,M)
def A16(M:A02)(k:A1k):Int×A02:=
 if !A6t k then(3,M)else if k.num<=M.top\/k.min<M.now then(15,M)
 else if A7n k=true/\(M.vols<=k.vol\/M.blks<=k.blk)then(2,M)
 else if(A59 M k).1≠0 then A59 M k
 else(0,{ (A59 M k).2 with C:=fun n=>if n=k.num then some k else M.C n,top:=k.num,now:=k.min })
section
variable {s S : St} {o o' : Nat → Nat} {d : Nat → Prop} {c m x t f b mc : Nat} {sl : Value} {M : A02} {Q : Post}
theorem A01.setT{T':List Item}(h:A01 s o c m x t f b mc sl M)(hT:TabC S o' (c+1) t T')(g:Fd s S o o' (·=c+1)):A01 S o' c m x t f b mc sl { M with T:=T' }:=
 ⟨h.blk.fd g (by rw[h.col];omega),(g.col h.blk.lt).trans h.col,h.pos,⟨hT,h.law.auto.fd g (by omega),h.law.book.fd g (by omega),h.law.forest.fd g (by omega)⟩,h.idx.fd g (by omega) (by omega),h.cells.fd g (by omega) (by omega),h.now,h.top,h.sizes⟩
theorem A01.setX{X':Option AN}(h:A01 s o c m x t f b mc sl M)(hX:A21 S o' (c+4) x X')(g:Fd s S o o' (·=c+4)):A01 S o' c m x t f b mc sl { M with X:=X' }:=
 ⟨h.blk.fd g (by rw[h.col];omega),(g.col h.blk.lt).trans h.col,h.pos,h.law.fd g (by have:=h.pos;omega) (by omega) (by omega) (by omega),hX,h.cells.fd g (by omega) (by omega),h.now,h.top,h.sizes⟩
theorem A01.setF{F':List Twig}(h:A01 s o c m x t f b mc sl M)(hF:ForC S o' (c+3) f F')(g:Fd s S o o' (·=c+3)):A01 S o' c m x t f b mc sl { M with F:=F' }:=
 ⟨h.blk.fd g (by rw[h.col];omega),(g.col h.blk.lt).trans h.col,h.pos,⟨h.law.tab.fd g (by omega),h.law.auto.fd g (by omega),h.law.book.fd g (by omega),hF⟩,h.idx.fd g (by omega) (by omega),h.cells.fd g (by omega) (by omega),h.now,h.top,h.sizes⟩
theorem A01.setL{L':List PutM}(h:A01 s o c m x t f b mc sl M)(hL:A7r S o' (c+2) b L')(g:Fd s S o o' (·=c+2)):A01 S o' c m x t f b mc sl { M with L:=L' }:=
 ⟨h.blk.fd g (by rw[h.col];omega),(g.col h.blk.lt).trans h.col,h.pos,⟨h.law.tab.fd g (by omega),h.law.auto.fd g (by omega),hL,h.law.forest.fd g (by omega)⟩,h.idx.fd g (by omega) (by omega),h.cells.fd g (by omega) (by omega),h.now,h.top,h.sizes⟩
theorem A01.setC{C':Int->Option A1k}(h:A01 s o c m x t f b mc sl M)(hC:A94 S o' (c+5) mc C')(g:Fd s S o o' (·=c+5)):A01 S o' c m x t f b mc sl { M with C:=C' }:=
 ⟨h.blk.fd g (by rw[h.col];omega),(g.col h.blk.lt).trans h.col,h.pos,⟨h.law.tab.fd g (by omega),h.law.auto.fd g (by omega),h.law.book.fd g (by omega),h.law.forest.fd g (by omega)⟩,h.idx.fd g (by omega) (by omega),hC,h.now,h.top,h.sizes⟩
theorem A01.setB{now top:Int}(h:A01 s o c m x t f b mc sl M)(hb:Blk S m (A10 M.vols M.blks sl M.A mc x t f b now top))(g:Fd s S o o' (·=c))(h1:0<=now/\now<=1073741824)(h2:0<=top/\top<=65535):A01 S o' c m x t f b mc sl { M with now:=now,top:=top }:=
 ⟨hb,(g.col h.blk.lt).trans h.col,h.pos,h.law.fd g (by have:=h.pos;omega) (by omega) (by omega) (by omega),h.idx.fd g (by omega) (by have:=h.pos;omega),h.cells.fd g (by omega) (by have:=h.pos;omega),h1,h2,h.sizes⟩
theorem Fd.into{k:Nat}(g:Fd s S o o' (·=c+k))(hk:k<6):Fd s S o o' (inC c):=g.mono (fun x e=>by subst e;exact⟨by omega,by omega⟩)
theorem B4k{k:A1k}{v:Value}(h:A01 s o c m x t f b mc sl M)(hv:data v=true/\v.cells=#[v])(hs:spOk (B0x k))(hq:∀S o',Fd s S o o' (inC c)->A01 S o' c m x t f b mc sl (B4w M k).2->Q (.int .i64 (B4w M k).1) S) :
  CC X 235 [.pointer (some ⟨m,0,none⟩),A1r k v] Q s:=by
 have hb:=h.heap;have hlt:=h.blk.lt;refine F6q rfl ?_;unfold A1r
 try simp -implicitDefEqProofs (disch:=first|exact dsc|fail)[hv,hb]
 have o1:Old s (s.alloc (.cells (A1z k v) false)):=by simp
 have b0:(s.alloc (.cells (A1z k v) false)).heap s.next=some (.cells (A1z k v) false):=St.alloc_self
 have n1:(s.alloc (.cells (A1z k v) false)).next=s.next+1:=by simp
 unfold A1z at o1 b0 n1;have f00:Fd s _ o (tint o s.next 0) (fun _=>False):=o1.tint
 have h1:=h.fd f00 (fun _ h=>h.elim) id;have f0:Fd s _ o (tint o s.next 0) (inC c):=f00.mono (fun _ h=>h.elim)
 have hc0:tint o s.next 0 s.next=0:=A0d (Nat.le_refl _)
 clear f00;generalize tint o s.next 0=o1' at *
 generalize s.alloc (.cells [.int .i64 k.kind,.int .u64 k.num,.int .i64 k.min,.int .i64 k.branch,.int .i64 k.vol,.int .i64 k.blk,.int .u64 k.ref,.int .i64 k.from,.int .i64 k.to,.int .i64 k.until_,v] false)=s1 at *
 have hb1:=h1.heap;have hlt1:=h1.blk.lt
 try simp -implicitDefEqProofs (disch:=first|exact dsc|fail)[-C5n,-C5j,b0,hb1]
 refine D48 h1.tab fun S2 o2 hT f2=>?_;have hP2:=h1.setT hT f2;have F2:=f0.trans (f2.into (by omega))
 have b2:=(f2.chg.eq (b:=s.next) (by omega) (by rw[hc0];omega)).trans b0
 unfold B4w at hq;by_cases e0:(tAdd M.T k.num k.min).1=0
 ·rw[if_neg (by simpa using e0)]at hq
  have hb2:=hP2.heap;have hle2:=f2.chg.le;have hlt2:=hP2.blk.lt
  try simp -implicitDefEqProofs (disch:=first|exact dsc|fail)[e0,b2,hb2]
  refine A5d hP2.forest ?_;by_cases ha:A2v M.F k.branch=true
  ·rw[if_pos ha]at hq
   try simp -implicitDefEqProofs (disch:=first|exact dsc|fail)[ha,b2,hb2]
   refine D2b (k:=B0x k) hP2.idx (by omega) hs fun S3 o3 hX f3=>?_
   try simp -implicitDefEqProofs (disch:=first|exact dsc|fail)[]
   exact A0a (hq _ _ (F2.trans (f3.into (by omega))) (hP2.setX hX f3))
  ·rw[if_neg ha]at hq
   try simp -implicitDefEqProofs (disch:=first|exact dsc|fail)[ha]
   exact A0a (hq _ _ F2 hP2)
 ·rw[if_pos e0]at hq
  try simp -implicitDefEqProofs (disch:=first|exact dsc|fail)[-C5n,-C5j,e0]
  exact A0a (hq _ _ F2 hP2)
theorem C9w{k:A1k}{v:Value}(h:A01 s o c m x t f b mc sl M)(hv:data v=true/\v.cells=#[v])(hk:1<=k.kind/\k.kind<=8)(hs:k.kind<=3->spOk (B0x k))(hq:∀S o',Fd s S o o' (inC c)->A01 S o' c m x t f b mc sl (A59 M k).2->Q (.int .i64 (A59 M k).1) S) :
  A0u P (calls X) (kFn k.kind) [.pointer (some ⟨m,0,none⟩),A1r k v] Q s:=by
 have hb:=h.heap;have hlt:=h.blk.lt;unfold A59 at hq;unfold kFn;by_cases k3:k.kind<=3
 ·rw[if_pos k3]at hq ⊢;simp -implicitDefEqProofs (disch:=first|exact dsc|fail)[A0u];exact B4k h hv (hs k3) hq
 have o1:Old s (s.alloc (.cells (A1z k v) false)):=by simp
 have f00:Fd s _ o (tint o s.next 0) (fun _=>False):=o1.tint
 have h1:=h.fd f00 (fun _ h=>h.elim) id;have f0:Fd s _ o (tint o s.next 0) (inC c):=f00.mono (fun _ h=>h.elim)
 have hc0:tint o s.next 0 s.next=0:=A0d (Nat.le_refl _)
 have b0:(s.alloc (.cells (A1z k v) false)).heap s.next=some (.cells (A1z k v) false):=St.alloc_self
 have n1:(s.alloc (.cells (A1z k v) false)).next=s.next+1:=by simp
 clear f00;have gen:=tint o s.next 0
 unfold A1z at o1 b0 n1 h1 f0;have hb1:=h1.heap;have hlt1:=h1.blk.lt;rw[if_neg k3]at hq ⊢;by_cases k4:k.kind=4
 ·rw[if_pos k4]at hq ⊢;simp -implicitDefEqProofs (disch:=first|exact dsc|fail)[A0u];refine F10 rfl ?_;unfold A1r
  try simp -implicitDefEqProofs (disch:=first|exact dsc|fail)[hv,hb]
  refine C8v h1.forest fun S2 hF f2=>?_
  try simp -implicitDefEqProofs (disch:=first|exact dsc|fail)[]
  exact A0a (hq _ _ (f0.trans (f2.into (by omega))) (h1.setF hF f2))
 rw[if_neg k4]at hq ⊢;by_cases k5:k.kind=5
 ·rw[if_pos k5]at hq ⊢;simp -implicitDefEqProofs (disch:=first|exact dsc|fail)[A0u];refine F2n rfl ?_;unfold A1r
  try simp -implicitDefEqProofs (disch:=first|exact dsc|fail)[hv,hb]
  refine C8a h1.forest fun S2 hF f2=>?_
  try simp -implicitDefEqProofs (disch:=first|exact dsc|fail)[]
  exact A0a (hq _ _ (f0.trans (f2.into (by omega))) (h1.setF hF f2))
 rw[if_neg k5]at hq ⊢;by_cases k6:k.kind=6
 ·rw[if_pos k6]at hq ⊢;simp -implicitDefEqProofs (disch:=first|exact dsc|fail)[A0u];refine F3g rfl ?_;unfold A1r
  try simp -implicitDefEqProofs (disch:=first|exact dsc|fail)[hv,hb]
  refine D9a h1.book fun S2 o2 hF f2=>?_
  try simp -implicitDefEqProofs (disch:=first|exact dsc|fail)[]
  exact A0a (hq _ _ (f0.trans (f2.into (by omega))) (h1.setL hF f2))
 rw[if_neg k6]at hq ⊢;by_cases k7:k.kind=7
 ·rw[if_pos k7]at hq ⊢;simp -implicitDefEqProofs (disch:=first|exact dsc|fail)[A0u];refine F4l rfl ?_;unfold A1r
  try simp -implicitDefEqProofs (disch:=first|exact dsc|fail)[hv,hb]
  refine B73 h1.book fun S2 hF f2=>?_
  try simp -implicitDefEqProofs (disch:=first|exact dsc|fail)[]
  exact A0a (by simpa using hq _ _ (f0.trans (f2.into (by omega))) (h1.setL hF f2))
 rw[if_neg k7]at hq ⊢;simp -implicitDefEqProofs (disch:=first|exact dsc|fail)[A0u];refine F19 rfl ?_;unfold A1r
 try simp -implicitDefEqProofs (disch:=first|exact dsc|fail)[hv,hb]
 exact A0a (hq _ _ f0 h1)
theorem F7n{M:A02}{k:A1k}:(A59 M k).2.C=M.C:=by
 unfold A59 B4w
 repeat' split
 all_goals rfl
theorem C03{α:Type}{l:List (Int×α)}{n:Int}{x:α}{p:Int×α}(h:p∈mput l n x):p=(n,x)\/p∈l:=by
 unfold mput at h;split at h
 ·rcases List.mem_or_eq_of_mem_set h with h|h
  ·exact .inr h
  ·exact .inl h
 ·simp only[List.mem_append,List.mem_singleton]at h;exact h.symm
theorem B67{xs:List Int}{acc:ByteArray}:(B17 acc xs).size=acc.size+xs.length:=by
 induction xs generalizing acc with
 | nil=>rfl
 | cons x r ih=>rw[B17,ih];simp;omega
theorem A83(bs:ByteArray):∀(n i:Nat) (r:List UInt8),bs.size-i=n->(ByteArray.toList.loop bs i r).length=r.length+(bs.size-i)
 | 0,i,r,h=>by rw[ByteArray.toList.loop,if_neg (by omega)];simp;omega
 | n+1,i,r,h=>by rw[ByteArray.toList.loop,if_pos (by omega),A83 bs n (i+1) _ (by omega)];simp;omega
theorem B7w(bs:ByteArray):bs.toList.length=bs.size:=by
 unfold ByteArray.toList;rw[A83 bs _ 0 [] rfl];simp
theorem B5j{k:A1k}(h:A6t k=true):k.body.length<=100:=by
 simp only[A6t,Bool.and_eq_true,decide_eq_true_eq,C06,E3f]at h;obtain⟨⟨⟨⟨⟨_,h1⟩,_⟩,_⟩,_⟩,hf⟩:=h;by_cases k1:k.kind=1
 ·simp only[A3v,if_pos k1,Bool.and_eq_true,decide_eq_true_eq]at hf;omega
 ·by_cases k3:k.kind=3
  ·simp only[A3v,if_neg k1,k3,Bool.and_eq_true,decide_eq_true_eq]at hf;simp at hf;omega
  ·have h1:=h1;have hb:B6d k.kind=false:=by simp[B6d,k1,k3]
   rw[hb]at h1;have:=congrArg List.length (beq_iff_eq.1 h1.1.1.1.1.1.1.1.1);rw[B7w,B7w,B67,B67]at this;have h0:(if false=true then k.body else []).length=0:=rfl
   omega
theorem A84{k:A1k}(h:A6t k=true)(h3:k.kind<=3):spOk (B0x k):=by
 simp only[A6t,Bool.and_eq_true,decide_eq_true_eq,B6h]at h;obtain⟨⟨⟨⟨⟨hk,_⟩,h1⟩,h2⟩,_⟩,hf⟩:=h;have hk':k.kind=1\/k.kind=2\/k.kind=3:=by omega
 have:B1h k.branch k.vol k.blk=true:=by
  rcases hk' with e|e|e<;>simp[A3v,e]at hf<;>simp[hf]
 simp only[B1h,A3n,Bool.and_eq_true,decide_eq_true_eq]at this;unfold spOk B0x;simp only;omega
theorem A70{k:A1k}{v:Value}(hK:A2z s o)(h:A01 s o c m x t f b mc sl M)(hv:(intE .u8).In s v k.body)(hc:∀S o',Fd s S o o' (inC c)->(intE .u8).In S v k.body)(hq:∀S o',Fd s S o o' (inC c)->A01 S o' c m x t f b mc sl (A16 M k).2->Q (.int .i64 (A16 M k).1) S) :
  CC X 16 [.pointer (some ⟨m,0,none⟩),A1r k v] Q s:=by
 have hd:=hv.data;have hb:=h.heap;have hlt:=h.blk.lt;refine G1o rfl ?_;have same:∀e,A16 M k=(e,M)->Q (.int .i64 e) s:=fun e he=>by
  have:=hq s o .refl;rw[he]at this;exact this h
 have o1:Old s (s.alloc (.cells (A1z k v) false)):=by simp
 have b0:(s.alloc (.cells (A1z k v) false)).heap s.next=some (.cells (A1z k v) false):=St.alloc_self
 have n1:(s.alloc (.cells (A1z k v) false)).next=s.next+1:=by simp
 have f00:Fd s _ o (tint o s.next 0) (fun _=>False):=o1.tint
 have h1:=h.fd f00 (fun _ h=>h.elim) id;have hK1:=hK.fd f00 id;have f0:Fd s _ o (tint o s.next 0) (inC c):=f00.mono (fun _ h=>h.elim)
 have hc0:tint o s.next 0 s.next=0:=A0d (Nat.le_refl _)
 clear f00;generalize tint o s.next 0=o1' at *
 unfold A1r at *
 try simp -implicitDefEqProofs (disch:=first|exact dsc|fail)[-A7h,-A69,hd,A0j A0f]
 unfold A1z at o1 b0 n1 h1 f0 hK1;generalize s.alloc (.cells [.int .i64 k.kind,.int .u64 k.num,.int .i64 k.min,.int .i64 k.branch,.int .i64 k.vol,.int .i64 k.blk,.int .u64 k.ref,.int .i64 k.from,.int .i64 k.to,.int .i64 k.until_,v] false)=s1 at *
 have hb1:=h1.heap;have hlt1:=h1.blk.lt;refine B60 (c:=k) (v:=v) (hv.old o1) ?_;by_cases hr:A6t k=true
 ·try simp -implicitDefEqProofs (disch:=first|exact dsc|fail)[-A7h,-A69,hr,b0,hb1]
  by_cases g1:k.num<=M.top
  ·try simp -implicitDefEqProofs (disch:=first|exact dsc|fail)[-A7h,-A69,g1]
   exact A0b o1 (.int _ _) (same 15 (by simp[A16,hr,g1]))
  ·by_cases g2:k.min<M.now
   ·try simp -implicitDefEqProofs (disch:=first|exact dsc|fail)[-A7h,-A69,g1,g2]
    exact A0b o1 (.int _ _) (same 15 (by simp[A16,hr,g2]))
   ·try simp -implicitDefEqProofs (disch:=first|exact dsc|fail)[-A7h,-A69,g1,g2]
    refine B00 (c:=k) (v:=v) ?_ hd;have key:¬(A7n k=true/\(M.vols<=k.vol\/M.blks<=k.blk))->A69 (CC X) Q s (.pointer (some ⟨m,0,none⟩)) (.pointer (some ⟨s.next,0,none⟩)) s1:=fun g3=>by
     have hr':=hr;simp only[A6t,Bool.and_eq_true,decide_eq_true_eq,B6h,A3n]at hr';have hk18:1<=k.kind/\k.kind<=8:=hr'.1.1.1.1.1;obtain⟨kb,l,kk1,kk2,kk3,kk4,kk5⟩:=hK1;have hb0:=kk1.eq;have hlk:=kk4.look0 (n:=k.kind) (z:=.nilFunc);rw[kk5 _ hk18.1 hk18.2]at hlk
     try simp -implicitDefEqProofs (disch:=first|exact dsc|fail)[-A7h,b0,hb0,hlk,hd]
     refine C9w (k:=k) (v:=v) h1 hd hk18 (A84 hr) fun S2 o2 f2 h2=>?_;have hAp:A16 M k=if(A59 M k).1≠0 then A59 M k else(0,{ (A59 M k).2 with C:=fun n=>if n=k.num then some k else(A59 M k).2.C n,top:=k.num,now:=k.min }):=by
      simp only[A16,hr,g1,g2,g3,F7n];simp
     rw[hAp]at hq;by_cases e0:(A59 M k).1=0
     ·rw[if_neg (by simpa using e0)]at hq
      try simp -implicitDefEqProofs (disch:=first|exact dsc|fail)[-A7h,-A69,e0]
      have F2:=f0.trans f2;have b2:=(f2.chg.eq (b:=s.next) (by omega) (by rw[hc0];unfold inC;have:=h.pos;omega)).trans b0
      have hb2:=h2.heap;have hlt2:=h2.blk.lt;have hle2:=f2.chg.le;have hd2:=hd
      try simp -implicitDefEqProofs (disch:=first|exact dsc|fail)[e0,b2,hb2,hd]
      refine B0i (k:=k) (v:=v) (hc _ _ F2) (B5j hr) fun v3 S3 hN=>?_;have o3:=hN.old_;have f3:Fd S2 S3 o2 (tint o2 S2.next 0) (fun _=>False):=o3.tint
      have hI:=hN.im (o:=o2);have hle3:=o3.le;have b3:=(o3.eq (by omega)).trans b2
      have h3:=h2.fd f3 (fun _ h=>h.elim) id;generalize tint o2 S2.next 0=o3' at *
      have hb3:=h3.heap;have hlt3:=h3.blk.lt;obtain⟨⟨l3,m1,m2,m3⟩,m4,m5⟩:=h3.cells;have hcol:o3' s.next=0:=(f3.col (by omega)).trans ((f2.col (by omega)).trans hc0)
      have hmb:s.next≠mc:=fun e=>by rw[e,m4]at hcol;omega
      have hmm:m≠mc:=fun e=>by have:=h3.col;rw[e,m4]at this;omega
      have hd3:=hI.1.data
      try simp -implicitDefEqProofs (disch:=first|exact dsc|fail)[b3,hb3]
      refine m1.put (x:=(k,v3)) rfl fun S4 n1 n2 n3=>?_;have f4:Fd S3 S4 o3' o3' (·=c+5):=⟨⟨by omega,fun {b} hb hn=>n3 (fun e=>hn (by rw[e];exact m4))⟩,fun _=>rfl⟩
      have h4:=h3.setC (C':=fun n=>if n=k.num then some k else(A59 M k).2.C n) ⟨⟨_,n1,fun p hp=>?_,fun n=>?_⟩,m4,fun n hn=>?_⟩ f4
      ·have b4:=(n3 hmb).trans b3;have hb4:=(n3 hmm).trans hb3
       try simp -implicitDefEqProofs (disch:=first|exact dsc|fail)[b4,hb4]
       have f5:∀y,Fd S4 (S4.put m y) o3' o3' (·=c):=fun y=>⟨⟨by simp,fun {b} hb hn=>St.put_other (fun e=>hn (by rw[e];exact h3.col))⟩,fun _=>rfl⟩
       have h5:=h4.setB (now:=k.min) (top:=k.num) (S:=S4.put m (.cells (A10 (A59 M k).2.vols (A59 M k).2.blks sl (A59 M k).2.A mc x t f b k.min k.num) false)) ⟨by simpa using h4.blk.lt,St.put_self⟩ (f5 _) hr'.1.2 ⟨by omega,hr'.1.1.2⟩
       exact A0a (hq _ o3' (((F2.trans (f3.mono (fun _ h=>h.elim))).trans (f4.into (by omega))).trans ((f5 _).into (k:=0) (by omega))) h5)
      ·rcases C03 hp with rfl|hp
       ·exact⟨hI.fd (f4.mono (fun _ h=>h)) (by omega),B5j hr⟩
       ·exact⟨(m2 p hp).1.fd f4 (by omega),(m2 p hp).2⟩
      ·rw[C19];split
       ·rfl
       ·exact m3 n
      ·split at hn
       ·next e=>exact⟨by rw[e];exact hr'.1.1.1.2,by rw[e];exact hr'.1.1.2⟩
       ·exact m5 n hn
     ·rw[if_pos e0]at hq
      try simp -implicitDefEqProofs (disch:=first|exact dsc|fail)[-A7h,-A69,e0]
      exact A0a (hq _ _ (f0.trans f2) h2)
    have hbad:A7n k=true/\(M.vols<=k.vol\/M.blks<=k.blk)->Q (.int .i64 2) s:=fun g3=>same 2 (by simp[A16,hr,g1,g2,g3])
    unfold A7n at key hbad;cases hm:decide (k.kind=1)||decide (k.kind=2)||decide (k.kind=3)
    ·try simp -implicitDefEqProofs (disch:=first|exact dsc|fail)[-A7h,-A69,hm,b0,hb1]
     exact key (by simp[hm])
    ·by_cases g4:M.vols<=k.vol
     ·try simp -implicitDefEqProofs (disch:=first|exact dsc|fail)[-A7h,-A69,hm,b0,hb1,g4]
      exact A0b o1 (.int _ _) (hbad (by simp[hm,g4]))
     ·by_cases g5:M.blks<=k.blk
      ·try simp -implicitDefEqProofs (disch:=first|exact dsc|fail)[-A7h,-A69,hm,b0,hb1,g4,g5]
       exact A0b o1 (.int _ _) (hbad (by simp[hm,g5]))
      ·try simp -implicitDefEqProofs (disch:=first|exact dsc|fail)[-A7h,-A69,hm,b0,hb1,g4,g5]
       exact key (by simp[hm,g4,g5])
 ·try simp -implicitDefEqProofs (disch:=first|exact dsc|fail)[-A7h,-A69,hr]
  exact A0b o1 (.int _ _) (same 3 (by simp[A16,hr]))
end
end Go.Zz
