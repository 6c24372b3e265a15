import Derived.Test.YtnghaapdoanabaaGreatDoorWR1
set_option linter.all false
set_option maxRecDepth 20000
set_option linter.all false
namespace Go.Zz
open Go
variable {X : Y0}
def setupL(a b vols blks:Int)(v:Value)(fi:Bool):List Value:=[.int .i64 a,.int .i64 b,.int .i64 vols,.int .i64 blks]++(List.replicate 32 (.int .u8 0)++[v,.bool fi])
section
variable {s : St} {o : Nat → Nat} {c m : Nat} {M : MindM} {Q : Post}
theorem Setup_spec{v:Value}(hv:data v=true/\v.cells=#[v])(hb:Bel s.next v)(hq:Q (.agg (setupL 4 4 2 3 v false).toArray) s):CC X 22 [v] Q s:=by
 refine f22xin rfl ?_
 try simp -implicitDefEqProofs (disch:=first|exact dsc|fail)[hv,List.replicate]
 exact kEnd_back (by simp) (by simp[hb]) hq
theorem New_spec{a b vols blks:Int}{v:Value}{rs:List RuleM}{fi:Bool}(c:Nat)(hc:c≠0)(hv:ruleE.In s v rs)(hlen:rs.length<1000000)(hsz:1<=vols/\vols<=8/\1<=blks/\blks<=256)
  (hok:∀A m S o',MindC S o' c m ⟨vols,blks,A,fun _=>none,none,[],List.replicate 16 tw0,[],0,0⟩->A.l.map (·.r)=rs.filter (fun r=>!decide (r.kind=4))->(A.nevers=rs.any fun r=>decide (r.kind=4))->Fd s S o o' (fun _=>False)->Q (.tuple #[.pointer (some ⟨m,0,none⟩),.int .i64 0]) S)
  (hbad:∀e S,e≠0->¬(rs.length<=16/\∀r∈rs,rRight r=true)->Old s S->Q (.tuple #[.pointer none,.int .i64 e]) S):CC X 21 [.agg (setupL a b vols blks v fi).toArray] Q s:=by
 have hd:=hv.data;refine f21xin rfl ?_;have hsl:(setupL a b vols blks v fi).length=38:=by simp[setupL]
 have g2:∀h:2<(setupL a b vols blks v fi).length,(setupL a b vols blks v fi)[2]=.int .i64 vols:=fun _=>by simp[setupL]
 have g3:∀h:3<(setupL a b vols blks v fi).length,(setupL a b vols blks v fi)[3]=.int .i64 blks:=fun _=>by simp[setupL]
 have g36:∀h:36<(setupL a b vols blks v fi).length,(setupL a b vols blks v fi)[36]=v:=fun _=>by simp[setupL]
 have h1:¬vols<1:=by omega
 have h2:¬8<vols:=by omega
 have h3:¬blks<1:=by omega
 have h4:¬256<blks:=by omega
 try simp -implicitDefEqProofs (disch:=first|exact dsc|fail)[-f21xJ1,-f21xJ2,hsl,g2,g3,h1,h2,h3,h4]
 try simp -implicitDefEqProofs (disch:=first|exact dsc|fail)[-f21xJ1,-f21xJ2,hsl,g36]
 have o1:Old s (s.alloc (.cells (setupL a b vols blks v fi) false)):=by simp
 have b0:(s.alloc (.cells (setupL a b vols blks v fi) false)).heap s.next=some (.cells (setupL a b vols blks v fi) false):=St.alloc_self
 have n1:(s.alloc (.cells (setupL a b vols blks v fi) false)).next=s.next+1:=by simp
 generalize s.alloc (.cells (setupL a b vols blks v fi) false)=s1 at *
 try simp -implicitDefEqProofs (disch:=first|exact dsc|fail)[-f21xJ1,hsl,g36,b0]
 refine aCompile_spec (o:=o) (hv.old o1) hlen (fun sl A S1 o1' hr1 hr2 hA hA2 hA3 f1=>?_) (fun e S1 he hnr o2=>?_)
 ·have hsd:data sl=true/\sl.cells=#[sl]:=let ⟨_,hk,_⟩:=hA.own;hk.in_.data;have hle1:=f1.chg.le;have e0:=(f1.chg.eq (b:=s.next) (by omega) (fun h=>h)).trans b0
  unfold autoV
  try simp -implicitDefEqProofs (disch:=first|exact dsc|fail)[-f21xJ1,hsd]
  have oB:Old S1 (S1.alloc (.cells [sl,.int .i64 A.never,.bool A.nevers] false)):=by simp
  have b1:(S1.alloc (.cells [sl,.int .i64 A.never,.bool A.nevers] false)).heap S1.next=some (.cells [sl,.int .i64 A.never,.bool A.nevers] false):=St.alloc_self
  have n2:(S1.alloc (.cells [sl,.int .i64 A.never,.bool A.nevers] false)).next=S1.next+1:=by simp
  generalize S1.alloc (.cells [sl,.int .i64 A.never,.bool A.nevers] false)=S2 at *;have e0':=(oB.eq (by omega)).trans e0
  try simp -implicitDefEqProofs (disch:=first|exact dsc|fail)[mapN,e0',hsl,g2,g3,b1]
  refine iNew_spec (o:=o1') (c+4) fun x S3 o3 f3 hI=>?_;have hle3:=f3.chg.le;have oC:=f3.chg.old (fun _ _ h=>h);have e03:=(oC.eq (by omega)).trans e0'
  have b13:=(oC.eq (by omega)).trans b1
  try simp -implicitDefEqProofs (disch:=first|exact dsc|fail)[mapN,e03,hsl,g2,g3,b13]
  refine tNew_spec fun t S4 hT o4 hn4=>?_;have hle4:=o4.le;have e04:=(o4.eq (by omega)).trans e03
  have b14:=(o4.eq (by omega)).trans b13
  try simp -implicitDefEqProofs (disch:=first|exact dsc|fail)[mapN,e04,hsl,g2,g3,b14]
  refine fNew_spec fun f S5 hn5 o5 hF=>?_;have hle5:=o5.le;have e05:=(o5.eq (by omega)).trans e04
  have b15:=(o5.eq (by omega)).trans b14
  try simp -implicitDefEqProofs (disch:=first|exact dsc|fail)[mapN,e05,hsl,g2,g3,b15]
  refine bNew_spec fun b S6 hn6 o6 hB=>?_;have hle6:=o6.le;have e06:=(o6.eq (by omega)).trans e05
  have b16:=(o6.eq (by omega)).trans b15
  try simp -implicitDefEqProofs (disch:=first|exact dsc|fail)[mapN,e06,hsl,g2,g3,b16,hsd]
  have F1:Fd s S1 o o1' (fun _=>False):=o1.fd.trans f1;have F12:Fd S1 S2 o1' o1' (fun _=>False):=oB.fd;have F4:Fd S3 S4 o3 (tint o3 S3.next (c+1)) (fun _=>False):=o4.tint
  have F5:Fd S4 S5 (tint o3 S3.next (c+1)) (tint (tint o3 S3.next (c+1)) S4.next (c+3)) (fun _=>False):=o5.tint
  have T4:TabC S4 (tint o3 S3.next (c+1)) (c+1) t []:=⟨none,hT,tint_new hn4,fun b e=>by cases e⟩
  generalize tint o3 S3.next (c+1)=oc4 at *
  have T5:ForC S5 (tint oc4 S4.next (c+3)) (c+3) f (List.replicate 16 tw0):=⟨hF,by simp,tint_new hn5⟩
  generalize tint oc4 S4.next (c+3)=oc5 at *
  have F6:Fd S5 S6 oc5 (tint oc5 S5.next (c+2)) (fun _=>False):=o6.tint
  have T6:BookC S6 (tint oc5 S5.next (c+2)) (c+2) b []:=⟨_,none,hB,.nil,by simp,by simp,tint_new hn6,fun r e=>by cases e⟩
  generalize tint oc5 S5.next (c+2)=oc6 at *
  have F7:Fd S6 (S6.alloc (.map [] [] 0)) oc6 (tint oc6 S6.next (c+5)) (fun _=>False):=(Old.alloc (.refl _)).tint
  have T7:CellsC (S6.alloc (.map [] [] 0)) (tint oc6 S6.next (c+5)) (c+5) S6.next (fun _=>none):=⟨⟨[],.new,by simp,fun n=>by simp[mget,ixOf]⟩,tint_new (Nat.le_refl _),fun n h=>by cases h⟩
  generalize tint oc6 S6.next (c+5)=oc7 at *
  have n7:(S6.alloc (.map [] [] 0)).next=S6.next+1:=by simp
  generalize S6.alloc (.map [] [] 0)=S7 at *;have F8:∀y,Fd S7 (S7.alloc y) oc7 (tint oc7 S7.next c) (fun _=>False):=fun y=>(Old.alloc (.refl _)).tint
  rw[<-n7];refine kEnd_keep (hok A S7.next _ (tint oc7 S7.next c) ⟨x,t,f,b,S6.next,sl,⟨⟨by simp,by simp[mindCells]⟩,tint_new (Nat.le_refl _),hc,⟨?_,?_,?_,?_⟩,?_,?_,by simp,by simp,hsz⟩⟩ hA2 hA3 ((((((((F1.trans F12).trans f3).trans F4).trans F5).trans F6).trans F7).trans (F8 _))))
  ·exact(((T4.fd F5 id).fd F6 id).fd F7 id).fd (F8 _) id
  ·exact((((((hA.fd F12 id).fd f3 id).fd F4 id).fd F5 id).fd F6 id).fd F7 id).fd (F8 _) id
  ·exact(T6.fd F7 id).fd (F8 _) id
  ·exact((T5.fd F6 id).fd F7 id).fd (F8 _) id
  ·exact((((hI.fd F4 id id).fd F5 id id).fd F6 id id).fd F7 id id).fd (F8 _) id id
  ·exact T7.fd (F8 _) id id
 ·try simp -implicitDefEqProofs (disch:=first|exact dsc|fail)[-f21xJ1,he]
  exact kEnd_keep (hbad e _ he hnr ((o1.trans o2).alloc))
end
def kFn(k:Int):Value:=if k<=3 then .func (.func 235) #[] #[]else if k=4 then .func (.func 236) #[] #[]else if k=5 then .func (.func 238) #[] #[]else if k=6 then .func (.func 240) #[] #[]else if k=7 then .func (.func 242) #[] #[]else .func (.func 243) #[] #[]
def KindsR(s:St)(o:Nat->Nat):Prop:=∃kb l,Blk s 0 [.map (some kb)]/\o 0=0/\o kb=0/\MapR .i64 (fun v:Value=>v) s kb l/\∀k,1<=k->k<=8->mget l k=some (kFn k)
theorem KindsR.fd{s S:St}{o o':Nat->Nat}{d:Nat->Prop}(h:KindsR s o)(g:Fd s S o o' d)(hd:¬d 0):KindsR S o':=by
 obtain⟨kb,l,h1,h2,h3,h4,h5⟩:=h;exact⟨kb,l,h1.fd g (by rw[h2];exact hd),(g.col h1.lt).trans h2,(g.col h4.lt).trans h3,h4.chg g.chg (by rw[h3];exact hd),h5⟩
theorem KindsR.old{s S:St}{o:Nat->Nat}(h:KindsR s o)(g:Old s S):KindsR S o:=h.fd (d:=fun _=>False) g.fd id
def cSpot(k:CellM):SpotM:=⟨k.branch,k.vol,k.blk,k.num⟩
def mWrite(M:MindM)(k:CellM):Int×MindM:=
 if(tAdd M.T k.num k.min).1≠0 then((tAdd M.T k.num k.min).1,{ M with T:=(tAdd M.T k.num k.min).2 })
 else if fAlive M.F k.branch then((iPut M.X (cSpot k)).1,{ M with T:=(tAdd M.T k.num k.min).2,X:=(iPut M.X (cSpot k)).2 })
 else(0,{ M with T:=(tAdd M.T k.num k.min).2 })
def mKind(M:MindM)(k:CellM):Int×MindM:=
 if k.kind<=3 then mWrite M k
 else if k.kind=4 then((fFork M.F k.branch k.vol k.ref k.num).1,{ M with F:=(fFork M.F k.branch k.vol k.ref k.num).2 })
 else if k.kind=5 then((fDrop M.F k.branch).1,{ M with F:=(fDrop M.F k.branch).2 })
 else if k.kind=6 then((bAdd M.L k.ref k.from k.to k.until_ k.num k.min).1,{ M with L:=(bAdd M.L k.ref k.from k.to k.until_ k.num k.min).2 })
 else if k.kind=7 then(if M.L.any (fun p=>decide (p.id=k.ref))then 0 else 4,{ M with L:=bLift M.L k.ref })
 else(0,M)
def mApply(M:MindM)(k:CellM):Int×MindM:=
 if !cRight k then(3,M)else if k.num<=M.top\/k.min<M.now then(15,M)
 else if cMoment k=true/\(M.vols<=k.vol\/M.blks<=k.blk)then(2,M)
 else if(mKind M k).1≠0 then mKind M k
 else(0,{ (mKind M k).2 with C:=fun n=>if n=k.num then some k else M.C n,top:=k.num,now:=k.min })
section
variable {s S : St} {o o' : Nat → Nat} {d : Nat → Prop} {c m x t f b mc : Nat} {sl : Value} {M : MindM} {Q : Post}
theorem MindP.setT{T':List Item}(h:MindP s o c m x t f b mc sl M)(hT:TabC S o' (c+1) t T')(g:Fd s S o o' (·=c+1)):MindP S o' c m x t f b mc sl { M with T:=T' }:=
 ⟨h.blk.fd g (by rw[h.col];omega),(g.col h.blk.lt).trans h.col,h.pos,⟨hT,h.law.auto.fd g (by omega),h.law.book.fd g (by omega),h.law.forest.fd g (by omega)⟩,h.idx.fd g (by omega) (by omega),h.cells.fd g (by omega) (by omega),h.now,h.top,h.sizes⟩
theorem MindP.setX{X':Option AN}(h:MindP s o c m x t f b mc sl M)(hX:IndexC S o' (c+4) x X')(g:Fd s S o o' (·=c+4)):MindP S o' c m x t f b mc sl { M with X:=X' }:=
 ⟨h.blk.fd g (by rw[h.col];omega),(g.col h.blk.lt).trans h.col,h.pos,h.law.fd g (by have:=h.pos;omega) (by omega) (by omega) (by omega),hX,h.cells.fd g (by omega) (by omega),h.now,h.top,h.sizes⟩
theorem MindP.setF{F':List Twig}(h:MindP s o c m x t f b mc sl M)(hF:ForC S o' (c+3) f F')(g:Fd s S o o' (·=c+3)):MindP S o' c m x t f b mc sl { M with F:=F' }:=
 ⟨h.blk.fd g (by rw[h.col];omega),(g.col h.blk.lt).trans h.col,h.pos,⟨h.law.tab.fd g (by omega),h.law.auto.fd g (by omega),h.law.book.fd g (by omega),hF⟩,h.idx.fd g (by omega) (by omega),h.cells.fd g (by omega) (by omega),h.now,h.top,h.sizes⟩
theorem MindP.setL{L':List PutM}(h:MindP s o c m x t f b mc sl M)(hL:BookC S o' (c+2) b L')(g:Fd s S o o' (·=c+2)):MindP S o' c m x t f b mc sl { M with L:=L' }:=
 ⟨h.blk.fd g (by rw[h.col];omega),(g.col h.blk.lt).trans h.col,h.pos,⟨h.law.tab.fd g (by omega),h.law.auto.fd g (by omega),hL,h.law.forest.fd g (by omega)⟩,h.idx.fd g (by omega) (by omega),h.cells.fd g (by omega) (by omega),h.now,h.top,h.sizes⟩
theorem MindP.setC{C':Int->Option CellM}(h:MindP s o c m x t f b mc sl M)(hC:CellsC S o' (c+5) mc C')(g:Fd s S o o' (·=c+5)):MindP S o' c m x t f b mc sl { M with C:=C' }:=
 ⟨h.blk.fd g (by rw[h.col];omega),(g.col h.blk.lt).trans h.col,h.pos,⟨h.law.tab.fd g (by omega),h.law.auto.fd g (by omega),h.law.book.fd g (by omega),h.law.forest.fd g (by omega)⟩,h.idx.fd g (by omega) (by omega),hC,h.now,h.top,h.sizes⟩
theorem MindP.setB{now top:Int}(h:MindP s o c m x t f b mc sl M)(hb:Blk S m (mindCells M.vols M.blks sl M.A mc x t f b now top))(g:Fd s S o o' (·=c))(h1:0<=now/\now<=1073741824)(h2:0<=top/\top<=65535):MindP S o' c m x t f b mc sl { M with now:=now,top:=top }:=
 ⟨hb,(g.col h.blk.lt).trans h.col,h.pos,h.law.fd g (by have:=h.pos;omega) (by omega) (by omega) (by omega),h.idx.fd g (by omega) (by have:=h.pos;omega),h.cells.fd g (by omega) (by have:=h.pos;omega),h1,h2,h.sizes⟩
theorem Fd.into{k:Nat}(g:Fd s S o o' (·=c+k))(hk:k<6):Fd s S o o' (inC c):=g.mono (fun x e=>by subst e;exact⟨by omega,by omega⟩)
theorem write_mind_spec{k:CellM}{v:Value}(h:MindP s o c m x t f b mc sl M)(hv:data v=true/\v.cells=#[v])(hs:spOk (cSpot k))(hq:∀S o',Fd s S o o' (inC c)->MindP S o' c m x t f b mc sl (mWrite M k).2->Q (.int .i64 (mWrite M k).1) S) :
  CC X 235 [.pointer (some ⟨m,0,none⟩),cellV k v] Q s:=by
 have hb:=h.heap;have hlt:=h.blk.lt;refine f235xin rfl ?_;unfold cellV
 try simp -implicitDefEqProofs (disch:=first|exact dsc|fail)[hv,hb]
 have o1:Old s (s.alloc (.cells (cellL k v) false)):=by simp
 have b0:(s.alloc (.cells (cellL k v) false)).heap s.next=some (.cells (cellL k v) false):=St.alloc_self
 have n1:(s.alloc (.cells (cellL k v) false)).next=s.next+1:=by simp
 unfold cellL at o1 b0 n1;have f00:Fd s _ o (tint o s.next 0) (fun _=>False):=o1.tint
 have h1:=h.fd f00 (fun _ h=>h.elim) id;have f0:Fd s _ o (tint o s.next 0) (inC c):=f00.mono (fun _ h=>h.elim)
 have hc0:tint o s.next 0 s.next=0:=tint_new (Nat.le_refl _)
 clear f00;generalize tint o s.next 0=o1' at *
 generalize s.alloc (.cells [.int .i64 k.kind,.int .u64 k.num,.int .i64 k.min,.int .i64 k.branch,.int .i64 k.vol,.int .i64 k.blk,.int .u64 k.ref,.int .i64 k.from,.int .i64 k.to,.int .i64 k.until_,v] false)=s1 at *
 have hb1:=h1.heap;have hlt1:=h1.blk.lt
 try simp -implicitDefEqProofs (disch:=first|exact dsc|fail)[-f235xJ1,-f235xJ2,b0,hb1]
 refine tAdd_spec h1.tab fun S2 o2 hT f2=>?_;have hP2:=h1.setT hT f2;have F2:=f0.trans (f2.into (by omega))
 have b2:=(f2.chg.eq (b:=s.next) (by omega) (by rw[hc0];omega)).trans b0
 unfold mWrite at hq;by_cases e0:(tAdd M.T k.num k.min).1=0
 ·rw[if_neg (by simpa using e0)]at hq
  have hb2:=hP2.heap;have hle2:=f2.chg.le;have hlt2:=hP2.blk.lt
  try simp -implicitDefEqProofs (disch:=first|exact dsc|fail)[e0,b2,hb2]
  refine fAlive_spec hP2.forest ?_;by_cases ha:fAlive M.F k.branch=true
  ·rw[if_pos ha]at hq
   try simp -implicitDefEqProofs (disch:=first|exact dsc|fail)[ha,b2,hb2]
   refine iPut_spec (k:=cSpot k) hP2.idx (by omega) hs fun S3 o3 hX f3=>?_
   try simp -implicitDefEqProofs (disch:=first|exact dsc|fail)[]
   exact kEnd_keep (hq _ _ (F2.trans (f3.into (by omega))) (hP2.setX hX f3))
  ·rw[if_neg ha]at hq
   try simp -implicitDefEqProofs (disch:=first|exact dsc|fail)[ha]
   exact kEnd_keep (hq _ _ F2 hP2)
 ·rw[if_pos e0]at hq
  try simp -implicitDefEqProofs (disch:=first|exact dsc|fail)[-f235xJ1,-f235xJ2,e0]
  exact kEnd_keep (hq _ _ F2 hP2)
theorem kinds_spec{k:CellM}{v:Value}(h:MindP s o c m x t f b mc sl M)(hv:data v=true/\v.cells=#[v])(hk:1<=k.kind/\k.kind<=8)(hs:k.kind<=3->spOk (cSpot k))(hq:∀S o',Fd s S o o' (inC c)->MindP S o' c m x t f b mc sl (mKind M k).2->Q (.int .i64 (mKind M k).1) S) :
  callF P (calls X) (kFn k.kind) [.pointer (some ⟨m,0,none⟩),cellV k v] Q s:=by
 have hb:=h.heap;have hlt:=h.blk.lt;unfold mKind at hq;unfold kFn;by_cases k3:k.kind<=3
 ·rw[if_pos k3]at hq ⊢;simp -implicitDefEqProofs (disch:=first|exact dsc|fail)[callF];exact write_mind_spec h hv (hs k3) hq
 have o1:Old s (s.alloc (.cells (cellL k v) false)):=by simp
 have f00:Fd s _ o (tint o s.next 0) (fun _=>False):=o1.tint
 have h1:=h.fd f00 (fun _ h=>h.elim) id;have f0:Fd s _ o (tint o s.next 0) (inC c):=f00.mono (fun _ h=>h.elim)
 have hc0:tint o s.next 0 s.next=0:=tint_new (Nat.le_refl _)
 have b0:(s.alloc (.cells (cellL k v) false)).heap s.next=some (.cells (cellL k v) false):=St.alloc_self
 have n1:(s.alloc (.cells (cellL k v) false)).next=s.next+1:=by simp
 clear f00;have gen:=tint o s.next 0
 unfold cellL at o1 b0 n1 h1 f0;have hb1:=h1.heap;have hlt1:=h1.blk.lt;rw[if_neg k3]at hq ⊢;by_cases k4:k.kind=4
 ·rw[if_pos k4]at hq ⊢;simp -implicitDefEqProofs (disch:=first|exact dsc|fail)[callF];refine f236xin rfl ?_;unfold cellV
  try simp -implicitDefEqProofs (disch:=first|exact dsc|fail)[hv,hb]
  refine fFork_spec h1.forest fun S2 hF f2=>?_
  try simp -implicitDefEqProofs (disch:=first|exact dsc|fail)[]
  exact kEnd_keep (hq _ _ (f0.trans (f2.into (by omega))) (h1.setF hF f2))
 rw[if_neg k4]at hq ⊢;by_cases k5:k.kind=5
 ·rw[if_pos k5]at hq ⊢;simp -implicitDefEqProofs (disch:=first|exact dsc|fail)[callF];refine f238xin rfl ?_;unfold cellV
  try simp -implicitDefEqProofs (disch:=first|exact dsc|fail)[hv,hb]
  refine fDrop_spec h1.forest fun S2 hF f2=>?_
  try simp -implicitDefEqProofs (disch:=first|exact dsc|fail)[]
  exact kEnd_keep (hq _ _ (f0.trans (f2.into (by omega))) (h1.setF hF f2))
 rw[if_neg k5]at hq ⊢;by_cases k6:k.kind=6
 ·rw[if_pos k6]at hq ⊢;simp -implicitDefEqProofs (disch:=first|exact dsc|fail)[callF];refine f240xin rfl ?_;unfold cellV
  try simp -implicitDefEqProofs (disch:=first|exact dsc|fail)[hv,hb]
  refine bAdd_spec h1.book fun S2 o2 hF f2=>?_
  try simp -implicitDefEqProofs (disch:=first|exact dsc|fail)[]
  exact kEnd_keep (hq _ _ (f0.trans (f2.into (by omega))) (h1.setL hF f2))
 rw[if_neg k6]at hq ⊢;by_cases k7:k.kind=7
 ·rw[if_pos k7]at hq ⊢;simp -implicitDefEqProofs (disch:=first|exact dsc|fail)[callF];refine f242xin rfl ?_;unfold cellV
  try simp -implicitDefEqProofs (disch:=first|exact dsc|fail)[hv,hb]
  refine bLift_spec h1.book fun S2 hF f2=>?_
  try simp -implicitDefEqProofs (disch:=first|exact dsc|fail)[]
  exact kEnd_keep (by simpa using hq _ _ (f0.trans (f2.into (by omega))) (h1.setL hF f2))
 rw[if_neg k7]at hq ⊢;simp -implicitDefEqProofs (disch:=first|exact dsc|fail)[callF];refine f243xin rfl ?_;unfold cellV
 try simp -implicitDefEqProofs (disch:=first|exact dsc|fail)[hv,hb]
 exact kEnd_keep (hq _ _ f0 h1)
theorem mKind_C{M:MindM}{k:CellM}:(mKind M k).2.C=M.C:=by
 unfold mKind mWrite
 repeat' split
 all_goals rfl
theorem mput_mem{α:Type}{l:List (Int×α)}{n:Int}{x:α}{p:Int×α}(h:p∈mput l n x):p=(n,x)\/p∈l:=by
 unfold mput at h;split at h
 ·rcases List.mem_or_eq_of_mem_set h with h|h
  ·exact .inr h
  ·exact .inl h
 ·simp only[List.mem_append,List.mem_singleton]at h;exact h.symm
theorem bytesL_len{xs:List Int}{acc:ByteArray}:(bytesL acc xs).size=acc.size+xs.length:=by
 induction xs generalizing acc with
 | nil=>rfl
 | cons x r ih=>rw[bytesL,ih];simp;omega
theorem toList_loop_len(bs:ByteArray):∀(n i:Nat) (r:List UInt8),bs.size-i=n->(ByteArray.toList.loop bs i r).length=r.length+(bs.size-i)
 | 0,i,r,h=>by rw[ByteArray.toList.loop,if_neg (by omega)];simp;omega
 | n+1,i,r,h=>by rw[ByteArray.toList.loop,if_pos (by omega),toList_loop_len bs n (i+1) _ (by omega)];simp;omega
theorem toList_len(bs:ByteArray):bs.toList.length=bs.size:=by
 unfold ByteArray.toList;rw[toList_loop_len bs _ 0 [] rfl];simp
theorem cRight_body{k:CellM}(h:cRight k=true):k.body.length<=100:=by
 simp only[cRight,Bool.and_eq_true,decide_eq_true_eq,cSame,cKept]at h;obtain⟨⟨⟨⟨⟨_,h1⟩,_⟩,_⟩,_⟩,hf⟩:=h;by_cases k1:k.kind=1
 ·simp only[cFields,if_pos k1,Bool.and_eq_true,decide_eq_true_eq]at hf;omega
 ·by_cases k3:k.kind=3
  ·simp only[cFields,if_neg k1,k3,Bool.and_eq_true,decide_eq_true_eq]at hf;simp at hf;omega
  ·have h1:=h1;have hb:hBody k.kind=false:=by simp[hBody,k1,k3]
   rw[hb]at h1;have:=congrArg List.length (beq_iff_eq.1 h1.1.1.1.1.1.1.1.1);rw[toList_len,toList_len,bytesL_len,bytesL_len]at this;have h0:(if false=true then k.body else []).length=0:=rfl
   omega
theorem cRight_place{k:CellM}(h:cRight k=true)(h3:k.kind<=3):spOk (cSpot k):=by
 simp only[cRight,Bool.and_eq_true,decide_eq_true_eq,hKind]at h;obtain⟨⟨⟨⟨⟨hk,_⟩,h1⟩,h2⟩,_⟩,hf⟩:=h;have hk':k.kind=1\/k.kind=2\/k.kind=3:=by omega
 have:pThere k.branch k.vol k.blk=true:=by
  rcases hk' with e|e|e<;>simp[cFields,e]at hf<;>simp[hf]
 simp only[pThere,within,Bool.and_eq_true,decide_eq_true_eq]at this;unfold spOk cSpot;simp only;omega
theorem Apply_spec{k:CellM}{v:Value}(hK:KindsR s o)(h:MindP s o c m x t f b mc sl M)(hv:(intE .u8).In s v k.body)(hc:∀S o',Fd s S o o' (inC c)->(intE .u8).In S v k.body)(hq:∀S o',Fd s S o o' (inC c)->MindP S o' c m x t f b mc sl (mApply M k).2->Q (.int .i64 (mApply M k).1) S) :
  CC X 16 [.pointer (some ⟨m,0,none⟩),cellV k v] Q s:=by
 have hd:=hv.data;have hb:=h.heap;have hlt:=h.blk.lt;refine f16xin rfl ?_;have same:∀e,mApply M k=(e,M)->Q (.int .i64 e) s:=fun e he=>by
  have:=hq s o .refl;rw[he]at this;exact this h
 have o1:Old s (s.alloc (.cells (cellL k v) false)):=by simp
 have b0:(s.alloc (.cells (cellL k v) false)).heap s.next=some (.cells (cellL k v) false):=St.alloc_self
 have n1:(s.alloc (.cells (cellL k v) false)).next=s.next+1:=by simp
 have f00:Fd s _ o (tint o s.next 0) (fun _=>False):=o1.tint
 have h1:=h.fd f00 (fun _ h=>h.elim) id;have hK1:=hK.fd f00 id;have f0:Fd s _ o (tint o s.next 0) (inC c):=f00.mono (fun _ h=>h.elim)
 have hc0:tint o s.next 0 s.next=0:=tint_new (Nat.le_refl _)
 clear f00;generalize tint o s.next 0=o1' at *
 unfold cellV at *
 try simp -implicitDefEqProofs (disch:=first|exact dsc|fail)[-f16xJ1,-f16xJ2,hd,nil_ptr y_P_underlying_25]
 unfold cellL at o1 b0 n1 h1 f0 hK1;generalize s.alloc (.cells [.int .i64 k.kind,.int .u64 k.num,.int .i64 k.min,.int .i64 k.branch,.int .i64 k.vol,.int .i64 k.blk,.int .u64 k.ref,.int .i64 k.from,.int .i64 k.to,.int .i64 k.until_,v] false)=s1 at *
 have hb1:=h1.heap;have hlt1:=h1.blk.lt;refine Right_spec (c:=k) (v:=v) (hv.old o1) ?_;by_cases hr:cRight k=true
 ·try simp -implicitDefEqProofs (disch:=first|exact dsc|fail)[-f16xJ1,-f16xJ2,hr,b0,hb1]
  by_cases g1:k.num<=M.top
  ·try simp -implicitDefEqProofs (disch:=first|exact dsc|fail)[-f16xJ1,-f16xJ2,g1]
   exact kEnd_back o1 (.int _ _) (same 15 (by simp[mApply,hr,g1]))
  ·by_cases g2:k.min<M.now
   ·try simp -implicitDefEqProofs (disch:=first|exact dsc|fail)[-f16xJ1,-f16xJ2,g1,g2]
    exact kEnd_back o1 (.int _ _) (same 15 (by simp[mApply,hr,g2]))
   ·try simp -implicitDefEqProofs (disch:=first|exact dsc|fail)[-f16xJ1,-f16xJ2,g1,g2]
    refine Moment_spec (c:=k) (v:=v) ?_ hd;have key:¬(cMoment k=true/\(M.vols<=k.vol\/M.blks<=k.blk))->f16xJ2 (CC X) Q s (.pointer (some ⟨m,0,none⟩)) (.pointer (some ⟨s.next,0,none⟩)) s1:=fun g3=>by
     have hr':=hr;simp only[cRight,Bool.and_eq_true,decide_eq_true_eq,hKind,within]at hr';have hk18:1<=k.kind/\k.kind<=8:=hr'.1.1.1.1.1;obtain⟨kb,l,kk1,kk2,kk3,kk4,kk5⟩:=hK1;have hb0:=kk1.eq;have hlk:=kk4.look0 (n:=k.kind) (z:=.nilFunc);rw[kk5 _ hk18.1 hk18.2]at hlk
     try simp -implicitDefEqProofs (disch:=first|exact dsc|fail)[-f16xJ1,b0,hb0,hlk,hd]
     refine kinds_spec (k:=k) (v:=v) h1 hd hk18 (cRight_place hr) fun S2 o2 f2 h2=>?_;have hAp:mApply M k=if(mKind M k).1≠0 then mKind M k else(0,{ (mKind M k).2 with C:=fun n=>if n=k.num then some k else(mKind M k).2.C n,top:=k.num,now:=k.min }):=by
      simp only[mApply,hr,g1,g2,g3,mKind_C];simp
     rw[hAp]at hq;by_cases e0:(mKind M k).1=0
     ·rw[if_neg (by simpa using e0)]at hq
      try simp -implicitDefEqProofs (disch:=first|exact dsc|fail)[-f16xJ1,-f16xJ2,e0]
      have F2:=f0.trans f2;have b2:=(f2.chg.eq (b:=s.next) (by omega) (by rw[hc0];unfold inC;have:=h.pos;omega)).trans b0
      have hb2:=h2.heap;have hlt2:=h2.blk.lt;have hle2:=f2.chg.le;have hd2:=hd
      try simp -implicitDefEqProofs (disch:=first|exact dsc|fail)[e0,b2,hb2,hd]
      refine copied_spec (k:=k) (v:=v) (hc _ _ F2) (cRight_body hr) fun v3 S3 hN=>?_;have o3:=hN.old_;have f3:Fd S2 S3 o2 (tint o2 S2.next 0) (fun _=>False):=o3.tint
      have hI:=hN.im (o:=o2);have hle3:=o3.le;have b3:=(o3.eq (by omega)).trans b2
      have h3:=h2.fd f3 (fun _ h=>h.elim) id;generalize tint o2 S2.next 0=o3' at *
      have hb3:=h3.heap;have hlt3:=h3.blk.lt;obtain⟨⟨l3,m1,m2,m3⟩,m4,m5⟩:=h3.cells;have hcol:o3' s.next=0:=(f3.col (by omega)).trans ((f2.col (by omega)).trans hc0)
      have hmb:s.next≠mc:=fun e=>by rw[e,m4]at hcol;omega
      have hmm:m≠mc:=fun e=>by have:=h3.col;rw[e,m4]at this;omega
      have hd3:=hI.1.data
      try simp -implicitDefEqProofs (disch:=first|exact dsc|fail)[b3,hb3]
      refine m1.put (x:=(k,v3)) rfl fun S4 n1 n2 n3=>?_;have f4:Fd S3 S4 o3' o3' (·=c+5):=⟨⟨by omega,fun {b} hb hn=>n3 (fun e=>hn (by rw[e];exact m4))⟩,fun _=>rfl⟩
      have h4:=h3.setC (C':=fun n=>if n=k.num then some k else(mKind M k).2.C n) ⟨⟨_,n1,fun p hp=>?_,fun n=>?_⟩,m4,fun n hn=>?_⟩ f4
      ·have b4:=(n3 hmb).trans b3;have hb4:=(n3 hmm).trans hb3
       try simp -implicitDefEqProofs (disch:=first|exact dsc|fail)[b4,hb4]
       have f5:∀y,Fd S4 (S4.put m y) o3' o3' (·=c):=fun y=>⟨⟨by simp,fun {b} hb hn=>St.put_other (fun e=>hn (by rw[e];exact h3.col))⟩,fun _=>rfl⟩
       have h5:=h4.setB (now:=k.min) (top:=k.num) (S:=S4.put m (.cells (mindCells (mKind M k).2.vols (mKind M k).2.blks sl (mKind M k).2.A mc x t f b k.min k.num) false)) ⟨by simpa using h4.blk.lt,St.put_self⟩ (f5 _) hr'.1.2 ⟨by omega,hr'.1.1.2⟩
       exact kEnd_keep (hq _ o3' (((F2.trans (f3.mono (fun _ h=>h.elim))).trans (f4.into (by omega))).trans ((f5 _).into (k:=0) (by omega))) h5)
      ·rcases mput_mem hp with rfl|hp
       ·exact⟨hI.fd (f4.mono (fun _ h=>h)) (by omega),cRight_body hr⟩
       ·exact⟨(m2 p hp).1.fd f4 (by omega),(m2 p hp).2⟩
      ·rw[mget_mput];split
       ·rfl
       ·exact m3 n
      ·split at hn
       ·next e=>exact⟨by rw[e];exact hr'.1.1.1.2,by rw[e];exact hr'.1.1.2⟩
       ·exact m5 n hn
     ·rw[if_pos e0]at hq
      try simp -implicitDefEqProofs (disch:=first|exact dsc|fail)[-f16xJ1,-f16xJ2,e0]
      exact kEnd_keep (hq _ _ (f0.trans f2) h2)
    have hbad:cMoment k=true/\(M.vols<=k.vol\/M.blks<=k.blk)->Q (.int .i64 2) s:=fun g3=>same 2 (by simp[mApply,hr,g1,g2,g3])
    unfold cMoment at key hbad;cases hm:decide (k.kind=1)||decide (k.kind=2)||decide (k.kind=3)
    ·try simp -implicitDefEqProofs (disch:=first|exact dsc|fail)[-f16xJ1,-f16xJ2,hm,b0,hb1]
     exact key (by simp[hm])
    ·by_cases g4:M.vols<=k.vol
     ·try simp -implicitDefEqProofs (disch:=first|exact dsc|fail)[-f16xJ1,-f16xJ2,hm,b0,hb1,g4]
      exact kEnd_back o1 (.int _ _) (hbad (by simp[hm,g4]))
     ·by_cases g5:M.blks<=k.blk
      ·try simp -implicitDefEqProofs (disch:=first|exact dsc|fail)[-f16xJ1,-f16xJ2,hm,b0,hb1,g4,g5]
       exact kEnd_back o1 (.int _ _) (hbad (by simp[hm,g5]))
      ·try simp -implicitDefEqProofs (disch:=first|exact dsc|fail)[-f16xJ1,-f16xJ2,hm,b0,hb1,g4,g5]
       exact key (by simp[hm,g4,g5])
 ·try simp -implicitDefEqProofs (disch:=first|exact dsc|fail)[-f16xJ1,-f16xJ2,hr]
  exact kEnd_back o1 (.int _ _) (same 3 (by simp[mApply,hr]))
end
end Go.Zz
set_option maxRecDepth 20000
set_option linter.all false
namespace Go.Zz
open Go
variable {X : Y0}
theorem IterD.chg{α:Type}{q:IntKind}{f:α->Value}{s S:St}{it b:Nat}{l todo:List (Int×α)}{cur:Option (Int×α)}(h:IterD q f s it b l todo cur){M:Nat->Prop}(o:Chg s S M)(hb:¬M b)(hi:¬M it):IterD q f S it b l todo cur:=by
 obtain⟨bs,c,seen,h1,h2,h3,h4,h5,h6,h7⟩:=h.at_;have hle:=o.le;exact⟨⟨by have:=h.lt.1;omega,by have:=h.lt.2;omega⟩,h.nd,bs,c,seen,(o.eq h.lt.1 hb).trans h1,h2,h3,h4,(o.eq h.lt.2 hi).trans h5,h6,h7⟩
theorem IterD.old{α:Type}{q:IntKind}{f:α->Value}{s S:St}{it b:Nat}{l todo:List (Int×α)}{cur:Option (Int×α)}(h:IterD q f s it b l todo cur)(o:Old s S):IterD q f S it b l todo cur:=h.chg (o.chg (M:=fun _=>False)) id id
theorem MapR.fd_{α:Type}{q:IntKind}{f:α->Value}{s S:St}{o o':Nat->Nat}{b:Nat}{l:List (Int×α)}(h:MapR q f s b l)(g:Fd s S o o' (fun _=>False)):MapR q f S b l:=h.chg g.chg id
def mTick(M:MindM)(n:Int):MindM:=if n<0\/1073741824<n\/n<M.now then M else { M with now:=n }
section
variable {s S : St} {o o' : Nat → Nat} {d : Nat → Prop} {c m x t f b mc : Nat} {sl : Value} {M : MindM} {Q : Post}
theorem Tick_spec{n:Int}(h:MindP s o c m x t f b mc sl M)(hq:∀e S,Fd s S o o (·=c)->MindP S o c m x t f b mc sl (mTick M n)->Q (.int .i64 e) S):CC X 23 [.pointer (some ⟨m,0,none⟩),.int .i64 n] Q s:=by
 have hb:=h.heap;have hlt:=h.blk.lt;have hn:=h.now;unfold mTick at hq;refine f23xin rfl ?_;by_cases h1:n<0
 ·rw[if_pos (.inl h1)]at hq
  try simp -implicitDefEqProofs (disch:=first|exact dsc|fail)[nil_ptr y_P_underlying_25,hb,h1]
  exact hq _ s .refl h
 ·by_cases h2:1073741824<n
  ·rw[if_pos (.inr (.inl h2))]at hq
   try simp -implicitDefEqProofs (disch:=first|exact dsc|fail)[nil_ptr y_P_underlying_25,hb,h1,h2]
   exact hq _ s .refl h
  ·by_cases h3:n<M.now
   ·rw[if_pos (.inr (.inr h3))]at hq
    try simp -implicitDefEqProofs (disch:=first|exact dsc|fail)[nil_ptr y_P_underlying_25,hb,h1,h2,h3]
    exact hq _ s .refl h
   ·rw[if_neg (by omega)]at hq
    try simp -implicitDefEqProofs (disch:=first|exact dsc|fail)[nil_ptr y_P_underlying_25,hb,h1,h2,h3]
    have f5:∀y,Fd s (s.put m y) o o (·=c):=fun y=>⟨⟨by simp,fun {b} hb hn=>St.put_other (fun e=>hn (by rw[e];exact h.col))⟩,fun _=>rfl⟩
    have h5:=h.setB (now:=n) (top:=M.top) (S:=s.put m (.cells (mindCells M.vols M.blks sl M.A mc x t f b n M.top) false)) ⟨by simpa using hlt,St.put_self⟩ (f5 _) ⟨by omega,by omega⟩ h.top
    exact kEnd_keep (hq _ _ (f5 _) h5)
theorem Release_spec{n:Int}(h:MindP s o c m x t f b mc sl M)(hq:∀e S o',Fd s S o o' (inC c)->MindP S o' c m x t f b mc sl { M with T:=(tRel M.T n).2 }->Q (.int .i64 e) S):CC X 53 [.pointer (some ⟨m,0,none⟩),.int .u64 n] Q s:=by
 have hb:=h.heap;have hlt:=h.blk.lt;refine f53xin rfl ?_
 try simp -implicitDefEqProofs (disch:=first|exact dsc|fail)[nil_ptr y_P_underlying_25,hb]
 refine tRel_spec h.tab fun S2 o2 hT f2=>?_
 try simp -implicitDefEqProofs (disch:=first|exact dsc|fail)[]
 exact kEnd_keep (hq _ _ _ (f2.into (by omega)) (h.setT hT f2))
theorem CellsC.len{G:Int->Option CellM}{l:List (Int×CellM×Value)}(h1:MapR .u64 cvF s mc l)(h3:∀n,(mget l n).map (·.1)=G n)(hr:∀n,(G n).isSome=true->1<=n/\n<=65535):l.length<=65535:=by
 have:(l.map (·.1)).length<=((List.range 65535).map (fun i:Nat=>(i:Int)+1)).length:=nodup_len h1.nd (fun n hn=>by
  obtain⟨p,hp,rfl⟩:=List.mem_map.1 hn;have:=hr p.1 (by rw[<-h3,mget_of_mem h1.nd (show(p.1,p.2)∈l from hp)];rfl)
  exact List.mem_map.2 ⟨(p.1-1).toNat,List.mem_range.2 (by omega),by omega⟩)
 simpa using this
theorem Nums_spec(h:MindP s o c m x t f b mc sl M)(hq:∀v S xs,(intE .u64).New s S v xs->xs.length<=65535->xs.Pairwise (·<·)->(∀n,n∈xs↔(M.C n).isSome=true)->Q v S):CC X 20 [.pointer (some ⟨m,0,none⟩)] Q s:=by
 have hb:=h.heap;have hlt:=h.blk.lt;obtain⟨⟨l,h1,h2,h3⟩,h4,h5⟩:=h.cells;have hlen:=CellsC.len h1 h3 h5;have hmemG:∀n,n∈l.map (·.1)↔(M.C n).isSome=true:=fun n=>by
  rw[<-h3];cases hg:mget l n with
  | none=>simpa using mget_none.1 hg
  | some p=>simpa using⟨_,_,mget_mem hg⟩
 refine f20xin rfl ?_
 try simp -implicitDefEqProofs (disch:=first|exact dsc|fail)[nil_ptr y_P_underlying_25,hb]
 refine IterD.start h1 fun S1 hi hn1 ho=>?_
 try simp -implicitDefEqProofs (disch:=first|exact dsc|fail)[]
 refine f20xloop0 fun I hI=>?_;have fin:∀S v ρ xs,Old s S->(intE .u64).Own S v ρ xs->(∀r,ρ=some r->s.next<r)->xs.length<=l.length->(∀n∈xs,n∈l.map (·.1))->(∀p∈l,p.1∈xs)->xs.Nodup->f20xE0x0 (CC X) Q s v S:=by
  intro S v ρ xs ho hown hρ hl1 hA hB hC
  try simp -implicitDefEqProofs (disch:=first|exact dsc|fail)[]
  refine Sort_u hown (by omega) fun S2 ys k1 k2 k3 k4=>?_
  try simp -implicitDefEqProofs (disch:=first|exact dsc|fail)[]
  have hle:=k3.length_eq;have o2:Old s S2:=⟨by have:=ho.le;have:=k2.le;omega,fun {b} hb=>(k2.eq (by have:=ho.le;omega) (fun e=>by have:=hρ b e;omega)).trans (ho.eq hb)⟩
  refine kEnd_keep (hq v S2 ys ⟨ρ,k1,o2,fun r hr=>by have:=hρ r hr;omega⟩ (by omega) ?_ (fun n=>?_))
  ·exact k4.imp₂ (fun a b h1 h2=>by have:a≠b:=h2;omega) (k3.nodup_iff.2 hC)
  ·rw[k3.mem_iff,<-hmemG];exact⟨hA n,fun hn=>by obtain⟨p,hp,rfl⟩:=List.mem_map.1 hn;exact hB p hp⟩
 have key:∀r todo S cur v ρ xs,todo.length<=r->IterD .u64 cvF S s.next mc l todo cur->Old s S->(intE .u64).Own S v ρ xs->(∀r,ρ=some r->s.next<r)->xs.length+todo.length<=l.length->(∀n∈xs,n∈l.map (·.1))->(∀p∈l,p.1∈xs\/p∈todo)->(xs++todo.map (·.1)).Nodup->I v (.pointer (some ⟨s.next,0,none⟩)) S:=by
  intro r;induction r with
  | zero=>
   intro todo S cur v ρ xs hr hit ho hown hρ hl1 hA hB hC;have ht:todo=[]:=List.length_eq_zero_iff.1 (by omega)
   refine hI _ _ _ ?_;subst ht
   try simp -implicitDefEqProofs (disch:=first|exact dsc|fail)[-f20xE0x0]
   refine hit.next (by simp) (fun p hp t1 t2 e=>absurd e (by simp)) (fun hd=>?_)
   try simp -implicitDefEqProofs (disch:=first|exact dsc|fail)[-f20xE0x0]
   exact fin S v ρ xs ho hown hρ (by simpa using hl1) hA (fun p hp=>(hB p hp).elim id (fun h=>absurd h (by simp))) (by simpa using hC)
  | succ r ih=>
   intro todo S cur v ρ xs hr hit ho hown hρ hl1 hA hB hC;have hnd:todo.Nodup:=List.Pairwise.of_map (·.1) (fun a b hab e=>hab (by rw[e])) (List.nodup_append.1 hC).2.1
   refine hI _ _ _ ?_
   try simp -implicitDefEqProofs (disch:=first|exact dsc|fail)[-f20xE0x0]
   refine hit.next hnd (fun p hp t1 t2 e S2 hit2 hn2 he2=>?_) (fun hd=>?_)
   ·subst e;have o2:Old s S2:=⟨by have:=ho.le;omega,fun {b} hb=>(he2 (by omega)).trans (ho.eq hb)⟩
    have hown2:=hown.same (s':=S2) (by omega) (fun b hb=>he2 (fun e=>by have:=hρ b hb;omega))
    try simp -implicitDefEqProofs (disch:=first|exact dsc|fail)[-f20xE0x0]
    refine hit2.entry ?_
    try simp -implicitDefEqProofs (disch:=first|exact dsc|fail)[-f20xE0x0]
    refine hown2.push (a:=p.1) y_tSlice_34 y_tZeros_34 (by simp) (by simp) (by simp at hl1;omega) (by simp at hl1;omega) fun v' S3 ρ' w1 w2 w3=>?_
    have hi2:=hit2.lt;refine ih (t1++t2) S3 (some p) v' ρ' (xs++[p.1]) (by simp at hr ⊢;omega) (hit2.chg w2 (fun e=>?_) (fun e=>by have:=hρ _ e;omega)) ⟨by have:=w2.le;have:=o2.le;omega,fun {b} hb=>(w2.eq (by have:=o2.le;omega) (fun e=>by have:=hρ _ e;omega)).trans (o2.eq hb)⟩ w1 (fun r hr=>?_) (by simp at hl1 ⊢;omega) ?_ ?_ ?_
    ·have:=hρ _ e;have:=h1.lt;omega
    ·rcases w3 r hr with e|e
     ·exact hρ r e
     ·omega
    ·intro n hn;rcases List.mem_append.1 hn with hn|hn
     ·exact hA n hn
     ·rw[List.mem_singleton.1 hn];exact List.mem_map.2 ⟨p,hp,rfl⟩
    ·intro q hq';rcases hB q hq' with h|h
     ·exact .inl (by simp[h])
     ·simp only[List.mem_append,List.mem_cons]at h ⊢;rcases h with h|rfl|h
      ·exact .inr (.inl h)
      ·exact .inl (by simp)
      ·exact .inr (.inr h)
    ·refine(List.Perm.nodup_iff ?_).1 hC;simp only[List.map_append,List.map_cons,List.append_assoc,List.singleton_append];exact List.Perm.append_left _ List.perm_middle
   ·try simp -implicitDefEqProofs (disch:=first|exact dsc|fail)[-f20xE0x0]
    exact fin S v ρ xs ho hown hρ (by omega) hA (fun p hp=>(hB p hp).elim id (fun h=>absurd h (hd p hp))) (List.nodup_append.1 hC).1
 exact key l.length l S1 none _ none [] (Nat.le_refl _) hi ho .nil (by simp) (by simp) (by simp) (by simp) (by simpa using h1.nd)
theorem Clone_spec(c':Nat)(hc':c'≠0)(h:MindP s o c m x t f b mc sl M)(hq:∀m' S o',Fd s S o o' (fun _=>False)->MindC S o' c' m' M->Q (.pointer (some ⟨m',0,none⟩)) S):CC X 14 [.pointer (some ⟨m,0,none⟩)] Q s:=by
 have hb:=h.heap;have hlt:=h.blk.lt;have hd:=h.sld;obtain⟨⟨l,h1,h2,h3⟩,h4,h5⟩:=h.cells;have hlen:=CellsC.len h1 h3 h5;refine f14xin rfl ?_
 try simp -implicitDefEqProofs (disch:=first|exact dsc|fail)[-f14xJ2,nil_ptr y_P_underlying_25,hb,hd]
 try simp -implicitDefEqProofs (disch:=first|exact dsc|fail)[-f14xJ2,mapN,hb,hd]
 generalize hs1:(s.alloc (.cells (mindCells M.vols M.blks sl M.A (s.next+1) x t f b M.now M.top) false)).alloc (.map [] [] 0)=s1
 have hs1':=hs1;unfold mindCells at hs1';rw[hs1'];have F1:Fd s s1 o (tint (tint o s.next c') (s.next+1) (c'+5)) (fun _=>False):=by
  subst hs1;generalize hA:s.alloc (.cells (mindCells M.vols M.blks sl M.A (s.next+1) x t f b M.now M.top) false)=sA
  have nA:sA.next=s.next+1:=by subst hA;simp
  have G1:Fd s sA o (tint o s.next c') (fun _=>False):=by subst hA;exact(Old.alloc (.refl _)).tint
  have G2:Fd sA (sA.alloc (.map [] [] 0)) (tint o s.next c') (tint (tint o s.next c') sA.next (c'+5)) (fun _=>False):=(Old.alloc (.refl _)).tint
  rw[nA]at G2;exact G1.trans G2
 have n1:s1.next=s.next+2:=by subst hs1;simp
 have b0:s1.heap s.next=some (.cells (mindCells M.vols M.blks sl M.A (s.next+1) x t f b M.now M.top) false):=by subst hs1;rw[St.alloc_old (by simp)];exact St.alloc_self
 have hm1:MapR .u64 cvF s1 (s.next+1) []:=by
  subst hs1;have:=MapR.new (q:=.u64) (f:=cvF) (s:=s.alloc (.cells (mindCells M.vols M.blks sl M.A (s.next+1) x t f b M.now M.top) false))
  simpa using this
 have c0:tint (tint o s.next c') (s.next+1) (c'+5) s.next=c':=by rw[tint_old (by omega)];exact tint_new (Nat.le_refl _)
 have c1:tint (tint o s.next c') (s.next+1) (c'+5) (s.next+1)=c'+5:=tint_new (Nat.le_refl _)
 have c2:tint (tint o s.next c') (s.next+1) (c'+5) (s.next+2)=c'+5:=tint_new (by omega)
 generalize tint (tint o s.next c') (s.next+1) (c'+5)=o1 at *
 clear hs1 hs1';refine IterD.start (h1.fd_ F1) fun S1 hi hn1 ho=>?_
 try simp -implicitDefEqProofs (disch:=first|exact dsc|fail)[]
 refine f14xloop0 fun I hI=>?_;have hml:=h1.lt;have hinj:∀p∈l,∀q∈l,p.1=q.1->p=q:=fun p hp q hq e=>by
  have e1:=mget_of_mem h1.nd (show(p.1,p.2)∈l from hp)
  have e2:=mget_of_mem h1.nd (show(q.1,q.2)∈l from hq)
  rw[e,e2]at e1;exact Prod.ext e (by simpa using e1.symm)
 have fin:∀S o' l',Fd s S o o' (fun _=>False)->S.heap s.next=some (.cells (mindCells M.vols M.blks sl M.A (s.next+1) x t f b M.now M.top) false)->o' s.next=c'->o' (s.next+1)=c'+5->s.next+3<=S.next->MapR .u64 cvF S (s.next+1) l'->
   (∀p∈l',Im (intE .u8) S o' p.2.2 p.2.1.body/\p.2.1.body.length<=100)->(∀p∈l,(mget l' p.1).map (·.1)=some p.2.1)->(∀n∈l'.map (·.1),n∈l.map (·.1))->f14xE0x0 (CC X) Q s (.pointer (some ⟨m,0,none⟩)) (.pointer (some ⟨s.next,0,none⟩)) S:=by
  intro S o' l' F e0 e1 e2 e3 e4 hA hB hC;have hS:=h.fd F (fun _ h=>h.elim) id;have hbS:=hS.heap;have hltS:=hS.blk.lt;unfold mindCells at e0;have hCells:CellsC S o' (c'+5) (s.next+1) M.C:=⟨⟨l',e4,hA,fun n=>by
   by_cases hn:n∈l.map (·.1)
   ·obtain⟨p,hp,rfl⟩:=List.mem_map.1 hn;rw[hB p hp,<-h3,mget_of_mem h1.nd (show(p.1,p.2)∈l from hp)];rfl
   ·rw[<-h3,mget_none.2 hn,mget_none.2 (fun h=>hn (hC n h))]⟩,e2,h5⟩
  try simp -implicitDefEqProofs (disch:=first|exact dsc|fail)[hbS,e0]
  refine iClone_spec (o:=o') (c'+4) hS.idx fun x2 S2 o2 f2 i2=>?_;have h2:=hS.fd f2 (fun _ h=>h.elim) id;have hb2:=h2.heap;have hlt2:=h2.blk.lt;have hle2:=f2.chg.le;have e02:=(f2.chg.eq (b:=s.next) (by omega) id).trans e0
  try simp -implicitDefEqProofs (disch:=first|exact dsc|fail)[hb2,e02]
  obtain⟨ρt,hT,hTc⟩:=h2.tab;refine tClone_spec hT fun t2 ρt2 S3 hT3 ot3 n3 n3'=>?_;have f3:Fd S2 S3 o2 (tint o2 S2.next (c'+1)) (fun _=>False):=ot3.tint
  have hTab:TabC S3 (tint o2 S2.next (c'+1)) (c'+1) t2 M.T:=⟨ρt2,hT3,tint_new n3,fun b hb=>tint_new (n3' b hb)⟩
  generalize tint o2 S2.next (c'+1)=o3 at *
  have h3':=h2.fd f3 (fun _ h=>h.elim) id;have hb3:=h3'.heap;have hlt3:=h3'.blk.lt;have hle3:=f3.chg.le;have e03:=(f3.chg.eq (b:=s.next) (by omega) id).trans e02
  try simp -implicitDefEqProofs (disch:=first|exact dsc|fail)[hb3,e03]
  refine fClone_spec h3'.forest fun f' S4 n4 ot4 hF4=>?_;have f4:Fd S3 S4 o3 (tint o3 S3.next (c'+3)) (fun _=>False):=ot4.tint
  have hFor:ForC S4 (tint o3 S3.next (c'+3)) (c'+3) f' M.F:=⟨hF4,h3'.forest.len,tint_new n4⟩
  generalize tint o3 S3.next (c'+3)=o4 at *
  have h4':=h3'.fd f4 (fun _ h=>h.elim) id;have hb4:=h4'.heap;have hlt4:=h4'.blk.lt;have hle4:=f4.chg.le;have e04:=(f4.chg.eq (b:=s.next) (by omega) id).trans e03
  try simp -implicitDefEqProofs (disch:=first|exact dsc|fail)[hb4,e04]
  refine bClone_spec h4'.book fun b' vb ρb S5 n5 ot5 hB5 hBo hBn hBr=>?_;have f5:Fd S4 S5 o4 (tint o4 S4.next (c'+2)) (fun _=>False):=ot5.tint
  have hBook:BookC S5 (tint o4 S4.next (c'+2)) (c'+2) b' M.L:=⟨vb,ρb,hB5,hBo,hBn,(let ⟨_,_,_,_,_,g,_⟩:=h4'.book;g),tint_new n5,fun r hr=>tint_new (hBr r hr)⟩
  generalize tint o4 S4.next (c'+2)=o5 at *
  have h5':=h4'.fd f5 (fun _ h=>h.elim) id;have hb5:=h5'.heap;have hlt5:=h5'.blk.lt;have hle5:=f5.chg.le;have e05:=(f5.chg.eq (b:=s.next) (by omega) id).trans e04
  try simp -implicitDefEqProofs (disch:=first|exact dsc|fail)[hb5,e05]
  have hcol:o5 s.next=c':=(f5.col (by omega)).trans ((f4.col (by omega)).trans ((f3.col (by omega)).trans ((f2.col (by omega)).trans e1)))
  have f6:∀y,Fd S5 (S5.put s.next y) o5 o5 (·=c'):=fun y=>⟨⟨by simp,fun {b} hb hn=>St.put_other (fun e=>hn (by rw[e];exact hcol))⟩,fun _=>rfl⟩
  have F5:Fd s S5 o o5 (fun _=>False):=(((F.trans f2).trans f3).trans f4).trans f5;refine kEnd_keep (hq s.next _ o5 ⟨⟨by simpa using F5.chg.le,fun {b} hb hn=>(St.put_other (by omega)).trans (F5.chg.eq hb hn)⟩,F5.col⟩ ⟨x2,t2,f',b',s.next+1,sl,⟨⟨by simp;omega,by simp[mindCells]⟩,hcol,hc',⟨?_,?_,?_,?_⟩,?_,?_,h.now,h.top,h.sizes⟩⟩)
  ·exact((hTab.fd f4 id).fd f5 id).fd (f6 _) (by omega)
  ·exact h5'.law.auto.fd (f6 _) (by omega)
  ·exact hBook.fd (f6 _) (by omega)
  ·exact(hFor.fd f5 id).fd (f6 _) (by omega)
  ·exact(((i2.fd f3 id id).fd f4 id id).fd f5 id id).fd (f6 _) (by omega) (by omega)
  ·exact((((hCells.fd f2 id id).fd f3 id id).fd f4 id id).fd f5 id id).fd (f6 _) (by omega) (by omega)
 have key:∀r todo S o' l' cur,todo.length<=r->IterD .u64 cvF S (s.next+2) mc l todo cur->(todo.map (·.1)).Nodup->Fd s S o o' (fun _=>False)->S.heap s.next=some (.cells (mindCells M.vols M.blks sl M.A (s.next+1) x t f b M.now M.top) false)->o' s.next=c'->o' (s.next+1)=c'+5->o' (s.next+2)=c'+5->s.next+3<=S.next->MapR .u64 cvF S (s.next+1) l'->
   (∀p∈l',Im (intE .u8) S o' p.2.2 p.2.1.body/\p.2.1.body.length<=100)->(∀p∈l,p∈todo\/(mget l' p.1).map (·.1)=some p.2.1)->(∀n∈l'.map (·.1),n∈l.map (·.1))->I (.pointer (some ⟨m,0,none⟩)) (.pointer (some ⟨s.next,0,none⟩)) (.pointer (some ⟨s.next+2,0,none⟩)) S:=by
  intro r;induction r with
  | zero=>
   intro todo S o' l' cur hr hit hnd F e0 e1 e2 e2' e3 e4 hA hB hC;have ht:todo=[]:=List.length_eq_zero_iff.1 (by omega)
   subst ht;refine hI _ _ _ _ ?_
   try simp -implicitDefEqProofs (disch:=first|exact dsc|fail)[-f14xE0x0]
   refine hit.next (by simp) (fun p hp t1 t2 e=>absurd e (by simp)) (fun hd=>?_)
   try simp -implicitDefEqProofs (disch:=first|exact dsc|fail)[-f14xE0x0]
   exact fin S o' l' F e0 e1 e2 e3 e4 hA (fun p hp=>(hB p hp).elim (fun h=>absurd h (by simp)) id) hC
  | succ r ih=>
   intro todo S o' l' cur hr hit hnd F e0 e1 e2 e2' e3 e4 hA hB hC;have hnd':todo.Nodup:=List.Pairwise.of_map (·.1) (fun a b hab e=>hab (by rw[e])) hnd
   refine hI _ _ _ _ ?_
   try simp -implicitDefEqProofs (disch:=first|exact dsc|fail)[-f14xE0x0]
   refine hit.next hnd' (fun p hp t1 t2 e S2 hit2 hn2 he2=>?_) (fun hd=>?_)
   ·subst e
    try simp -implicitDefEqProofs (disch:=first|exact dsc|fail)[-f14xE0x0]
    refine hit2.entry ?_;have hlt2:=hit2.lt;have F2:Fd s S2 o o' (fun _=>False):=⟨⟨by have:=F.chg.le;omega,fun {b} hb hn=>(he2 (by omega)).trans (F.chg.eq hb hn)⟩,F.col⟩
    have G2:Fd S S2 o' o' (·=c'+5):=⟨⟨by omega,fun {b} hb hn=>he2 (fun e=>hn (by rw[e];exact e2'))⟩,fun _=>rfl⟩
    have b2:=(he2 (b':=s.next) (by omega)).trans e0
    unfold mindCells at b2;have hpd:data p.2.2=true/\p.2.2.cells=#[p.2.2]:=((h2 p hp).1.fd F2 id).1.data;obtain⟨n,k,v⟩:=p;unfold cvF cellV at *;simp only at hpd
    try simp -implicitDefEqProofs (disch:=first|exact dsc|fail)[b2,hpd]
    have o3:Old S2 (S2.alloc (.cells (cellL k v) false)):=by simp
    unfold cellL at o3;generalize S2.alloc (.cells [.int .i64 k.kind,.int .u64 k.num,.int .i64 k.min,.int .i64 k.branch,.int .i64 k.vol,.int .i64 k.blk,.int .u64 k.ref,.int .i64 k.from,.int .i64 k.to,.int .i64 k.until_,v] false)=S3 at *
    have hkv:=h2 _ hp;simp only at hkv;refine copied_spec (k:=k) (v:=v) ((hkv.1.fd F2 id).1.old o3) hkv.2 fun v3 S4 hN=>?_;have o4:=hN.old_;have hle3:=o3.le;have hle4:=o4.le;have G3:Fd S2 S3 o' (tint o' S2.next 0) (fun _=>False):=o3.tint
    have G4:Fd S3 S4 (tint o' S2.next 0) (tint (tint o' S2.next 0) S3.next 0) (fun _=>False):=o4.tint
    have hI3:=hN.im (o:=tint o' S2.next 0)
    have G34:=G3.trans G4;generalize tint (tint o' S2.next 0) S3.next 0=o4' at *
    have b4:=((o3.trans o4).eq (b:=s.next) (by omega)).trans b2
    have hm4:MapR .u64 cvF S4 (s.next+1) l':=(e4.chg (M:=(·=s.next+2)) ⟨by omega,fun {b} hb hn=>he2 hn⟩ (by omega)).old (o3.trans o4)
    have hd3:=hI3.1.data;unfold cellV at *
    try simp -implicitDefEqProofs (disch:=first|exact dsc|fail)[b4,hd3]
    refine hm4.put (x:=(k,v3)) rfl fun S5 m1 m2 m3=>?_;have G5:Fd S4 S5 o4' o4' (·=c'+5):=⟨⟨by omega,fun {b} hb hn=>m3 (fun e=>hn (by rw[e];exact(G34.col (by omega)).trans e2))⟩,fun _=>rfl⟩
    have G25:Fd S S5 o' o4' (·=c'+5):=(G2.trans (G34.mono (fun _ h=>h.elim))).trans G5;have F5:Fd s S5 o o4' (fun _=>False):=⟨⟨by have:=F.chg.le;omega,fun {b} hb hn=>(m3 (by omega)).trans (((o3.trans o4).eq (by omega)).trans (F2.chg.eq hb hn))⟩,fun {b} hb=>((G34.col (by omega)).trans (F.col hb))⟩
    refine ih (t1++t2) S5 o4' _ (some (n,k,v)) (by simp at hr ⊢;omega) ((hit2.old (o3.trans o4)).chg (M:=(·=s.next+1)) ⟨by omega,fun {b} hb hn=>m3 hn⟩ (by omega) (by omega)) ?_ F5 ?_ ?_ ?_ ?_ (by omega) m1 ?_ ?_ ?_
    ·exact hnd.sublist (by simp)
    ·exact(m3 (by omega)).trans b4
    ·exact(G34.col (by omega)).trans e1
    ·exact(G34.col (by omega)).trans e2
    ·exact(G34.col (by omega)).trans e2'
    ·intro p hp';rcases mput_mem hp' with rfl|hp'
     ·exact⟨hI3.fd (G5.mono (fun _ h=>h)) (by omega),hkv.2⟩
     ·exact⟨(hA p hp').1.fd G25 (by omega),(hA p hp').2⟩
    ·intro q hq';rw[mget_mput];by_cases e:q.1=n
     ·have:=hinj q hq' _ hp e;subst this;right;rw[if_pos rfl];rfl
     ·rw[if_neg e];refine(hB q hq').imp (fun h=>?_) id;simp only[List.mem_append,List.mem_cons]at h ⊢;rcases h with h|rfl|h
      ·exact .inl h
      ·exact absurd rfl e
      ·exact .inr h
    ·intro n' hn';obtain⟨p,hp',rfl⟩:=List.mem_map.1 hn';rcases mput_mem hp' with rfl|hp'
     ·exact List.mem_map.2 ⟨_,hp,rfl⟩
     ·exact hC _ (List.mem_map.2 ⟨p,hp',rfl⟩)
   ·try simp -implicitDefEqProofs (disch:=first|exact dsc|fail)[-f14xE0x0]
    exact fin S o' l' F e0 e1 e2 e3 e4 hA (fun p hp=>(hB p hp).elim (fun h=>absurd h (hd p hp)) id) hC
 rw[n1]at hi ⊢;exact key l.length l S1 o1 [] none (Nat.le_refl _) hi h1.nd (F1.trans ho.fd) ((ho.eq (by omega)).trans b0) c0 c1 c2 (by omega) (hm1.old ho) (by simp) (fun p hp=>.inl hp) (by simp)
end
end Go.Zz
