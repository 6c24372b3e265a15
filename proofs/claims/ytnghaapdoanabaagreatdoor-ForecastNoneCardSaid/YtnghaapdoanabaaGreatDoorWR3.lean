import Derived.Test.YtnghaapdoanabaaGreatDoorWR2
set_option linter.all false
set_option maxRecDepth 20000
set_option linter.all false
namespace Go.Zz
open Go
variable {X : Y0}
theorem A6f.chg{α:Type}{q:IntKind}{f:α->Value}{s S:St}{it b:Nat}{l todo:List (Int×α)}{cur:Option (Int×α)}(h:A6f q f s it b l todo cur){M:Nat->Prop}(o:Chg s S M)(hb:¬M b)(hi:¬M it):A6f q f S it b l todo cur:=by
 obtain⟨bs,c,seen,h1,h2,h3,h4,h5,h6,h7⟩:=h.at_;have hle:=o.le;exact⟨⟨by have:=h.lt.1;omega,by have:=h.lt.2;omega⟩,h.nd,bs,c,seen,(o.eq h.lt.1 hb).trans h1,h2,h3,h4,(o.eq h.lt.2 hi).trans h5,h6,h7⟩
theorem A6f.old{α:Type}{q:IntKind}{f:α->Value}{s S:St}{it b:Nat}{l todo:List (Int×α)}{cur:Option (Int×α)}(h:A6f q f s it b l todo cur)(o:Old s S):A6f q f S it b l todo cur:=h.chg (o.chg (M:=fun _=>False)) id id
theorem MapR.fd_{α:Type}{q:IntKind}{f:α->Value}{s S:St}{o o':Nat->Nat}{b:Nat}{l:List (Int×α)}(h:MapR q f s b l)(g:Fd s S o o' (fun _=>False)):MapR q f S b l:=h.chg g.chg id
def C4b(M:A02)(n:Int):A02:=if n<0\/1073741824<n\/n<M.now then M else { M with now:=n }
section
variable {s S : St} {o o' : Nat → Nat} {d : Nat → Prop} {c m x t f b mc : Nat} {sl : Value} {M : A02} {Q : Post}
theorem D83{n:Int}(h:A01 s o c m x t f b mc sl M)(hq:∀e S,Fd s S o o (·=c)->A01 S o c m x t f b mc sl (C4b M n)->Q (.int .i64 e) S):CC X 23 [.pointer (some ⟨m,0,none⟩),.int .i64 n] Q s:=by
 have hb:=h.heap;have hlt:=h.blk.lt;have hn:=h.now;unfold C4b at hq;refine G3h rfl ?_;by_cases h1:n<0
 ·rw[if_pos (.inl h1)]at hq
  try simp -implicitDefEqProofs (disch:=first|exact dsc|fail)[A0j A0f,hb,h1]
  exact hq _ s .refl h
 ·by_cases h2:1073741824<n
  ·rw[if_pos (.inr (.inl h2))]at hq
   try simp -implicitDefEqProofs (disch:=first|exact dsc|fail)[A0j A0f,hb,h1,h2]
   exact hq _ s .refl h
  ·by_cases h3:n<M.now
   ·rw[if_pos (.inr (.inr h3))]at hq
    try simp -implicitDefEqProofs (disch:=first|exact dsc|fail)[A0j A0f,hb,h1,h2,h3]
    exact hq _ s .refl h
   ·rw[if_neg (by omega)]at hq
    try simp -implicitDefEqProofs (disch:=first|exact dsc|fail)[A0j A0f,hb,h1,h2,h3]
    have f5:∀y,Fd s (s.put m y) o o (·=c):=fun y=>⟨⟨by simp,fun {b} hb hn=>St.put_other (fun e=>hn (by rw[e];exact h.col))⟩,fun _=>rfl⟩
    have h5:=h.setB (now:=n) (top:=M.top) (S:=s.put m (.cells (A10 M.vols M.blks sl M.A mc x t f b n M.top) false)) ⟨by simpa using hlt,St.put_self⟩ (f5 _) ⟨by omega,by omega⟩ h.top
    exact A0a (hq _ _ (f5 _) h5)
theorem C13{n:Int}(h:A01 s o c m x t f b mc sl M)(hq:∀e S o',Fd s S o o' (inC c)->A01 S o' c m x t f b mc sl { M with T:=(tRel M.T n).2 }->Q (.int .i64 e) S):CC X 53 [.pointer (some ⟨m,0,none⟩),.int .u64 n] Q s:=by
 have hb:=h.heap;have hlt:=h.blk.lt;refine G8h rfl ?_
 try simp -implicitDefEqProofs (disch:=first|exact dsc|fail)[A0j A0f,hb]
 refine C1t h.tab fun S2 o2 hT f2=>?_
 try simp -implicitDefEqProofs (disch:=first|exact dsc|fail)[]
 exact A0a (hq _ _ _ (f2.into (by omega)) (h.setT hT f2))
theorem A94.len{G:Int->Option A1k}{l:List (Int×A1k×Value)}(h1:MapR .u64 cvF s mc l)(h3:∀n,(mget l n).map (·.1)=G n)(hr:∀n,(G n).isSome=true->1<=n/\n<=65535):l.length<=65535:=by
 have:(l.map (·.1)).length<=((List.range 65535).map (fun i:Nat=>(i:Int)+1)).length:=A38 h1.nd (fun n hn=>by
  obtain⟨p,hp,rfl⟩:=List.mem_map.1 hn;have:=hr p.1 (by rw[<-h3,A60 h1.nd (show(p.1,p.2)∈l from hp)];rfl)
  exact List.mem_map.2 ⟨(p.1-1).toNat,List.mem_range.2 (by omega),by omega⟩)
 simpa using this
theorem A8q(h:A01 s o c m x t f b mc sl M)(hq:∀v S xs,(intE .u64).New s S v xs->xs.length<=65535->xs.Pairwise (·<·)->(∀n,n∈xs↔(M.C n).isSome=true)->Q v S):CC X 20 [.pointer (some ⟨m,0,none⟩)] Q s:=by
 have hb:=h.heap;have hlt:=h.blk.lt;obtain⟨⟨l,h1,h2,h3⟩,h4,h5⟩:=h.cells;have hlen:=A94.len h1 h3 h5;have hmemG:∀n,n∈l.map (·.1)↔(M.C n).isSome=true:=fun n=>by
  rw[<-h3];cases hg:mget l n with
  | none=>simpa using B1g.1 hg
  | some p=>simpa using⟨_,_,B39 hg⟩
 refine G7m rfl ?_
 try simp -implicitDefEqProofs (disch:=first|exact dsc|fail)[A0j A0f,hb]
 refine A6f.start h1 fun S1 hi hn1 ho=>?_
 try simp -implicitDefEqProofs (disch:=first|exact dsc|fail)[]
 refine D9i fun I hI=>?_;have fin:∀S v ρ xs,Old s S->(intE .u64).Own S v ρ xs->(∀r,ρ=some r->s.next<r)->xs.length<=l.length->(∀n∈xs,n∈l.map (·.1))->(∀p∈l,p.1∈xs)->xs.Nodup->A7d (CC X) Q s v S:=by
  intro S v ρ xs ho hown hρ hl1 hA hB hC
  try simp -implicitDefEqProofs (disch:=first|exact dsc|fail)[]
  refine C6t hown (by omega) fun S2 ys k1 k2 k3 k4=>?_
  try simp -implicitDefEqProofs (disch:=first|exact dsc|fail)[]
  have hle:=k3.length_eq;have o2:Old s S2:=⟨by have:=ho.le;have:=k2.le;omega,fun {b} hb=>(k2.eq (by have:=ho.le;omega) (fun e=>by have:=hρ b e;omega)).trans (ho.eq hb)⟩
  refine A0a (hq v S2 ys ⟨ρ,k1,o2,fun r hr=>by have:=hρ r hr;omega⟩ (by omega) ?_ (fun n=>?_))
  ·exact k4.imp₂ (fun a b h1 h2=>by have:a≠b:=h2;omega) (k3.nodup_iff.2 hC)
  ·rw[k3.mem_iff,<-hmemG];exact⟨hA n,fun hn=>by obtain⟨p,hp,rfl⟩:=List.mem_map.1 hn;exact hB p hp⟩
 have key:∀r todo S cur v ρ xs,todo.length<=r->A6f .u64 cvF S s.next mc l todo cur->Old s S->(intE .u64).Own S v ρ xs->(∀r,ρ=some r->s.next<r)->xs.length+todo.length<=l.length->(∀n∈xs,n∈l.map (·.1))->(∀p∈l,p.1∈xs\/p∈todo)->(xs++todo.map (·.1)).Nodup->I v (.pointer (some ⟨s.next,0,none⟩)) S:=by
  intro r;induction r with
  | zero=>
   intro todo S cur v ρ xs hr hit ho hown hρ hl1 hA hB hC;have ht:todo=[]:=List.length_eq_zero_iff.1 (by omega)
   refine hI _ _ _ ?_;subst ht
   try simp -implicitDefEqProofs (disch:=first|exact dsc|fail)[-A7d]
   refine hit.next (by simp) (fun p hp t1 t2 e=>absurd e (by simp)) (fun hd=>?_)
   try simp -implicitDefEqProofs (disch:=first|exact dsc|fail)[-A7d]
   exact fin S v ρ xs ho hown hρ (by simpa using hl1) hA (fun p hp=>(hB p hp).elim id (fun h=>absurd h (by simp))) (by simpa using hC)
  | succ r ih=>
   intro todo S cur v ρ xs hr hit ho hown hρ hl1 hA hB hC;have hnd:todo.Nodup:=List.Pairwise.of_map (·.1) (fun a b hab e=>hab (by rw[e])) (List.nodup_append.1 hC).2.1
   refine hI _ _ _ ?_
   try simp -implicitDefEqProofs (disch:=first|exact dsc|fail)[-A7d]
   refine hit.next hnd (fun p hp t1 t2 e S2 hit2 hn2 he2=>?_) (fun hd=>?_)
   ·subst e;have o2:Old s S2:=⟨by have:=ho.le;omega,fun {b} hb=>(he2 (by omega)).trans (ho.eq hb)⟩
    have hown2:=hown.same (s':=S2) (by omega) (fun b hb=>he2 (fun e=>by have:=hρ b hb;omega))
    try simp -implicitDefEqProofs (disch:=first|exact dsc|fail)[-A7d]
    refine hit2.entry ?_
    try simp -implicitDefEqProofs (disch:=first|exact dsc|fail)[-A7d]
    refine hown2.push (a:=p.1) A1o A2m (by simp) (by simp) (by simp at hl1;omega) (by simp at hl1;omega) fun v' S3 ρ' w1 w2 w3=>?_
    have hi2:=hit2.lt;refine ih (t1++t2) S3 (some p) v' ρ' (xs++[p.1]) (by simp at hr ⊢;omega) (hit2.chg w2 (fun e=>?_) (fun e=>by have:=hρ _ e;omega)) ⟨by have:=w2.le;have:=o2.le;omega,fun {b} hb=>(w2.eq (by have:=o2.le;omega) (fun e=>by have:=hρ _ e;omega)).trans (o2.eq hb)⟩ w1 (fun r hr=>?_) (by simp at hl1 ⊢;omega) ?_ ?_ ?_
    ·have:=hρ _ e;have:=h1.lt;omega
    ·rcases w3 r hr with e|e
     ·exact hρ r e
     ·omega
    ·intro n hn;rcases List.mem_append.1 hn with hn|hn
     ·exact hA n hn
     ·rw[List.mem_singleton.1 hn];exact List.mem_map.2 ⟨p,hp,rfl⟩
    ·intro q hq';rcases hB q hq' with h|h
     ·exact .inl (by simp[h])
     ·simp only[List.mem_append,List.mem_cons]at h ⊢;rcases h with h|rfl|h
      ·exact .inr (.inl h)
      ·exact .inl (by simp)
      ·exact .inr (.inr h)
    ·refine(List.Perm.nodup_iff ?_).1 hC;simp only[List.map_append,List.map_cons,List.append_assoc,List.singleton_append];exact List.Perm.append_left _ List.perm_middle
   ·try simp -implicitDefEqProofs (disch:=first|exact dsc|fail)[-A7d]
    exact fin S v ρ xs ho hown hρ (by omega) hA (fun p hp=>(hB p hp).elim id (fun h=>absurd h (hd p hp))) (List.nodup_append.1 hC).1
 exact key l.length l S1 none _ none [] (Nat.le_refl _) hi ho .nil (by simp) (by simp) (by simp) (by simp) (by simpa using h1.nd)
theorem B2u(c':Nat)(hc':c'≠0)(h:A01 s o c m x t f b mc sl M)(hq:∀m' S o',Fd s S o o' (fun _=>False)->C35 S o' c' m' M->Q (.pointer (some ⟨m',0,none⟩)) S):CC X 14 [.pointer (some ⟨m,0,none⟩)] Q s:=by
 have hb:=h.heap;have hlt:=h.blk.lt;have hd:=h.sld;obtain⟨⟨l,h1,h2,h3⟩,h4,h5⟩:=h.cells;have hlen:=A94.len h1 h3 h5;refine G56 rfl ?_
 try simp -implicitDefEqProofs (disch:=first|exact dsc|fail)[-D81,A0j A0f,hb,hd]
 try simp -implicitDefEqProofs (disch:=first|exact dsc|fail)[-D81,mapN,hb,hd]
 generalize hs1:(s.alloc (.cells (A10 M.vols M.blks sl M.A (s.next+1) x t f b M.now M.top) false)).alloc (.map [] [] 0)=s1
 have hs1':=hs1;unfold A10 at hs1';rw[hs1'];have F1:Fd s s1 o (tint (tint o s.next c') (s.next+1) (c'+5)) (fun _=>False):=by
  subst hs1;generalize hA:s.alloc (.cells (A10 M.vols M.blks sl M.A (s.next+1) x t f b M.now M.top) false)=sA
  have nA:sA.next=s.next+1:=by subst hA;simp
  have G1:Fd s sA o (tint o s.next c') (fun _=>False):=by subst hA;exact(Old.alloc (.refl _)).tint
  have G2:Fd sA (sA.alloc (.map [] [] 0)) (tint o s.next c') (tint (tint o s.next c') sA.next (c'+5)) (fun _=>False):=(Old.alloc (.refl _)).tint
  rw[nA]at G2;exact G1.trans G2
 have n1:s1.next=s.next+2:=by subst hs1;simp
 have b0:s1.heap s.next=some (.cells (A10 M.vols M.blks sl M.A (s.next+1) x t f b M.now M.top) false):=by subst hs1;rw[St.alloc_old (by simp)];exact St.alloc_self
 have hm1:MapR .u64 cvF s1 (s.next+1) []:=by
  subst hs1;have:=MapR.new (q:=.u64) (f:=cvF) (s:=s.alloc (.cells (A10 M.vols M.blks sl M.A (s.next+1) x t f b M.now M.top) false))
  simpa using this
 have c0:tint (tint o s.next c') (s.next+1) (c'+5) s.next=c':=by rw[A7c (by omega)];exact A0d (Nat.le_refl _)
 have c1:tint (tint o s.next c') (s.next+1) (c'+5) (s.next+1)=c'+5:=A0d (Nat.le_refl _)
 have c2:tint (tint o s.next c') (s.next+1) (c'+5) (s.next+2)=c'+5:=A0d (by omega)
 generalize tint (tint o s.next c') (s.next+1) (c'+5)=o1 at *
 clear hs1 hs1';refine A6f.start (h1.fd_ F1) fun S1 hi hn1 ho=>?_
 try simp -implicitDefEqProofs (disch:=first|exact dsc|fail)[]
 refine D6s fun I hI=>?_;have hml:=h1.lt;have hinj:∀p∈l,∀q∈l,p.1=q.1->p=q:=fun p hp q hq e=>by
  have e1:=A60 h1.nd (show(p.1,p.2)∈l from hp)
  have e2:=A60 h1.nd (show(q.1,q.2)∈l from hq)
  rw[e,e2]at e1;exact Prod.ext e (by simpa using e1.symm)
 have fin:∀S o' l',Fd s S o o' (fun _=>False)->S.heap s.next=some (.cells (A10 M.vols M.blks sl M.A (s.next+1) x t f b M.now M.top) false)->o' s.next=c'->o' (s.next+1)=c'+5->s.next+3<=S.next->MapR .u64 cvF S (s.next+1) l'->
   (∀p∈l',Im (intE .u8) S o' p.2.2 p.2.1.body/\p.2.1.body.length<=100)->(∀p∈l,(mget l' p.1).map (·.1)=some p.2.1)->(∀n∈l'.map (·.1),n∈l.map (·.1))->A8d (CC X) Q s (.pointer (some ⟨m,0,none⟩)) (.pointer (some ⟨s.next,0,none⟩)) S:=by
  intro S o' l' F e0 e1 e2 e3 e4 hA hB hC;have hS:=h.fd F (fun _ h=>h.elim) id;have hbS:=hS.heap;have hltS:=hS.blk.lt;unfold A10 at e0;have hCells:A94 S o' (c'+5) (s.next+1) M.C:=⟨⟨l',e4,hA,fun n=>by
   by_cases hn:n∈l.map (·.1)
   ·obtain⟨p,hp,rfl⟩:=List.mem_map.1 hn;rw[hB p hp,<-h3,A60 h1.nd (show(p.1,p.2)∈l from hp)];rfl
   ·rw[<-h3,B1g.2 hn,B1g.2 (fun h=>hn (hC n h))]⟩,e2,h5⟩
  try simp -implicitDefEqProofs (disch:=first|exact dsc|fail)[hbS,e0]
  refine C3x (o:=o') (c'+4) hS.idx fun x2 S2 o2 f2 i2=>?_;have h2:=hS.fd f2 (fun _ h=>h.elim) id;have hb2:=h2.heap;have hlt2:=h2.blk.lt;have hle2:=f2.chg.le;have e02:=(f2.chg.eq (b:=s.next) (by omega) id).trans e0
  try simp -implicitDefEqProofs (disch:=first|exact dsc|fail)[hb2,e02]
  obtain⟨ρt,hT,hTc⟩:=h2.tab;refine B5x hT fun t2 ρt2 S3 hT3 ot3 n3 n3'=>?_;have f3:Fd S2 S3 o2 (tint o2 S2.next (c'+1)) (fun _=>False):=ot3.tint
  have hTab:TabC S3 (tint o2 S2.next (c'+1)) (c'+1) t2 M.T:=⟨ρt2,hT3,A0d n3,fun b hb=>A0d (n3' b hb)⟩
  generalize tint o2 S2.next (c'+1)=o3 at *
  have h3':=h2.fd f3 (fun _ h=>h.elim) id;have hb3:=h3'.heap;have hlt3:=h3'.blk.lt;have hle3:=f3.chg.le;have e03:=(f3.chg.eq (b:=s.next) (by omega) id).trans e02
  try simp -implicitDefEqProofs (disch:=first|exact dsc|fail)[hb3,e03]
  refine B48 h3'.forest fun f' S4 n4 ot4 hF4=>?_;have f4:Fd S3 S4 o3 (tint o3 S3.next (c'+3)) (fun _=>False):=ot4.tint
  have hFor:ForC S4 (tint o3 S3.next (c'+3)) (c'+3) f' M.F:=⟨hF4,h3'.forest.len,A0d n4⟩
  generalize tint o3 S3.next (c'+3)=o4 at *
  have h4':=h3'.fd f4 (fun _ h=>h.elim) id;have hb4:=h4'.heap;have hlt4:=h4'.blk.lt;have hle4:=f4.chg.le;have e04:=(f4.chg.eq (b:=s.next) (by omega) id).trans e03
  try simp -implicitDefEqProofs (disch:=first|exact dsc|fail)[hb4,e04]
  refine B02 h4'.book fun b' vb ρb S5 n5 ot5 hB5 hBo hBn hBr=>?_;have f5:Fd S4 S5 o4 (tint o4 S4.next (c'+2)) (fun _=>False):=ot5.tint
  have hBook:A7r S5 (tint o4 S4.next (c'+2)) (c'+2) b' M.L:=⟨vb,ρb,hB5,hBo,hBn,(let ⟨_,_,_,_,_,g,_⟩:=h4'.book;g),A0d n5,fun r hr=>A0d (hBr r hr)⟩
  generalize tint o4 S4.next (c'+2)=o5 at *
  have h5':=h4'.fd f5 (fun _ h=>h.elim) id;have hb5:=h5'.heap;have hlt5:=h5'.blk.lt;have hle5:=f5.chg.le;have e05:=(f5.chg.eq (b:=s.next) (by omega) id).trans e04
  try simp -implicitDefEqProofs (disch:=first|exact dsc|fail)[hb5,e05]
  have hcol:o5 s.next=c':=(f5.col (by omega)).trans ((f4.col (by omega)).trans ((f3.col (by omega)).trans ((f2.col (by omega)).trans e1)))
  have f6:∀y,Fd S5 (S5.put s.next y) o5 o5 (·=c'):=fun y=>⟨⟨by simp,fun {b} hb hn=>St.put_other (fun e=>hn (by rw[e];exact hcol))⟩,fun _=>rfl⟩
  have F5:Fd s S5 o o5 (fun _=>False):=(((F.trans f2).trans f3).trans f4).trans f5;refine A0a (hq s.next _ o5 ⟨⟨by simpa using F5.chg.le,fun {b} hb hn=>(St.put_other (by omega)).trans (F5.chg.eq hb hn)⟩,F5.col⟩ ⟨x2,t2,f',b',s.next+1,sl,⟨⟨by simp;omega,by simp[A10]⟩,hcol,hc',⟨?_,?_,?_,?_⟩,?_,?_,h.now,h.top,h.sizes⟩⟩)
  ·exact((hTab.fd f4 id).fd f5 id).fd (f6 _) (by omega)
  ·exact h5'.law.auto.fd (f6 _) (by omega)
  ·exact hBook.fd (f6 _) (by omega)
  ·exact(hFor.fd f5 id).fd (f6 _) (by omega)
  ·exact(((i2.fd f3 id id).fd f4 id id).fd f5 id id).fd (f6 _) (by omega) (by omega)
  ·exact((((hCells.fd f2 id id).fd f3 id id).fd f4 id id).fd f5 id id).fd (f6 _) (by omega) (by omega)
 have key:∀r todo S o' l' cur,todo.length<=r->A6f .u64 cvF S (s.next+2) mc l todo cur->(todo.map (·.1)).Nodup->Fd s S o o' (fun _=>False)->S.heap s.next=some (.cells (A10 M.vols M.blks sl M.A (s.next+1) x t f b M.now M.top) false)->o' s.next=c'->o' (s.next+1)=c'+5->o' (s.next+2)=c'+5->s.next+3<=S.next->MapR .u64 cvF S (s.next+1) l'->
   (∀p∈l',Im (intE .u8) S o' p.2.2 p.2.1.body/\p.2.1.body.length<=100)->(∀p∈l,p∈todo\/(mget l' p.1).map (·.1)=some p.2.1)->(∀n∈l'.map (·.1),n∈l.map (·.1))->I (.pointer (some ⟨m,0,none⟩)) (.pointer (some ⟨s.next,0,none⟩)) (.pointer (some ⟨s.next+2,0,none⟩)) S:=by
  intro r;induction r with
  | zero=>
   intro todo S o' l' cur hr hit hnd F e0 e1 e2 e2' e3 e4 hA hB hC;have ht:todo=[]:=List.length_eq_zero_iff.1 (by omega)
   subst ht;refine hI _ _ _ _ ?_
   try simp -implicitDefEqProofs (disch:=first|exact dsc|fail)[-A8d]
   refine hit.next (by simp) (fun p hp t1 t2 e=>absurd e (by simp)) (fun hd=>?_)
   try simp -implicitDefEqProofs (disch:=first|exact dsc|fail)[-A8d]
   exact fin S o' l' F e0 e1 e2 e3 e4 hA (fun p hp=>(hB p hp).elim (fun h=>absurd h (by simp)) id) hC
  | succ r ih=>
   intro todo S o' l' cur hr hit hnd F e0 e1 e2 e2' e3 e4 hA hB hC;have hnd':todo.Nodup:=List.Pairwise.of_map (·.1) (fun a b hab e=>hab (by rw[e])) hnd
   refine hI _ _ _ _ ?_
   try simp -implicitDefEqProofs (disch:=first|exact dsc|fail)[-A8d]
   refine hit.next hnd' (fun p hp t1 t2 e S2 hit2 hn2 he2=>?_) (fun hd=>?_)
   ·subst e
    try simp -implicitDefEqProofs (disch:=first|exact dsc|fail)[-A8d]
    refine hit2.entry ?_;have hlt2:=hit2.lt;have F2:Fd s S2 o o' (fun _=>False):=⟨⟨by have:=F.chg.le;omega,fun {b} hb hn=>(he2 (by omega)).trans (F.chg.eq hb hn)⟩,F.col⟩
    have G2:Fd S S2 o' o' (·=c'+5):=⟨⟨by omega,fun {b} hb hn=>he2 (fun e=>hn (by rw[e];exact e2'))⟩,fun _=>rfl⟩
    have b2:=(he2 (b':=s.next) (by omega)).trans e0
    unfold A10 at b2;have hpd:data p.2.2=true/\p.2.2.cells=#[p.2.2]:=((h2 p hp).1.fd F2 id).1.data;obtain⟨n,k,v⟩:=p;unfold cvF A1r at *;simp only at hpd
    try simp -implicitDefEqProofs (disch:=first|exact dsc|fail)[b2,hpd]
    have o3:Old S2 (S2.alloc (.cells (A1z k v) false)):=by simp
    unfold A1z at o3;generalize S2.alloc (.cells [.int .i64 k.kind,.int .u64 k.num,.int .i64 k.min,.int .i64 k.branch,.int .i64 k.vol,.int .i64 k.blk,.int .u64 k.ref,.int .i64 k.from,.int .i64 k.to,.int .i64 k.until_,v] false)=S3 at *
    have hkv:=h2 _ hp;simp only at hkv;refine B0i (k:=k) (v:=v) ((hkv.1.fd F2 id).1.old o3) hkv.2 fun v3 S4 hN=>?_;have o4:=hN.old_;have hle3:=o3.le;have hle4:=o4.le;have G3:Fd S2 S3 o' (tint o' S2.next 0) (fun _=>False):=o3.tint
    have G4:Fd S3 S4 (tint o' S2.next 0) (tint (tint o' S2.next 0) S3.next 0) (fun _=>False):=o4.tint
    have hI3:=hN.im (o:=tint o' S2.next 0)
    have G34:=G3.trans G4;generalize tint (tint o' S2.next 0) S3.next 0=o4' at *
    have b4:=((o3.trans o4).eq (b:=s.next) (by omega)).trans b2
    have hm4:MapR .u64 cvF S4 (s.next+1) l':=(e4.chg (M:=(·=s.next+2)) ⟨by omega,fun {b} hb hn=>he2 hn⟩ (by omega)).old (o3.trans o4)
    have hd3:=hI3.1.data;unfold A1r at *
    try simp -implicitDefEqProofs (disch:=first|exact dsc|fail)[b4,hd3]
    refine hm4.put (x:=(k,v3)) rfl fun S5 m1 m2 m3=>?_;have G5:Fd S4 S5 o4' o4' (·=c'+5):=⟨⟨by omega,fun {b} hb hn=>m3 (fun e=>hn (by rw[e];exact(G34.col (by omega)).trans e2))⟩,fun _=>rfl⟩
    have G25:Fd S S5 o' o4' (·=c'+5):=(G2.trans (G34.mono (fun _ h=>h.elim))).trans G5;have F5:Fd s S5 o o4' (fun _=>False):=⟨⟨by have:=F.chg.le;omega,fun {b} hb hn=>(m3 (by omega)).trans (((o3.trans o4).eq (by omega)).trans (F2.chg.eq hb hn))⟩,fun {b} hb=>((G34.col (by omega)).trans (F.col hb))⟩
    refine ih (t1++t2) S5 o4' _ (some (n,k,v)) (by simp at hr ⊢;omega) ((hit2.old (o3.trans o4)).chg (M:=(·=s.next+1)) ⟨by omega,fun {b} hb hn=>m3 hn⟩ (by omega) (by omega)) ?_ F5 ?_ ?_ ?_ ?_ (by omega) m1 ?_ ?_ ?_
    ·exact hnd.sublist (by simp)
    ·exact(m3 (by omega)).trans b4
    ·exact(G34.col (by omega)).trans e1
    ·exact(G34.col (by omega)).trans e2
    ·exact(G34.col (by omega)).trans e2'
    ·intro p hp';rcases C03 hp' with rfl|hp'
     ·exact⟨hI3.fd (G5.mono (fun _ h=>h)) (by omega),hkv.2⟩
     ·exact⟨(hA p hp').1.fd G25 (by omega),(hA p hp').2⟩
    ·intro q hq';rw[C19];by_cases e:q.1=n
     ·have:=hinj q hq' _ hp e;subst this;right;rw[if_pos rfl];rfl
     ·rw[if_neg e];refine(hB q hq').imp (fun h=>?_) id;simp only[List.mem_append,List.mem_cons]at h ⊢;rcases h with h|rfl|h
      ·exact .inl h
      ·exact absurd rfl e
      ·exact .inr h
    ·intro n' hn';obtain⟨p,hp',rfl⟩:=List.mem_map.1 hn';rcases C03 hp' with rfl|hp'
     ·exact List.mem_map.2 ⟨_,hp,rfl⟩
     ·exact hC _ (List.mem_map.2 ⟨p,hp',rfl⟩)
   ·try simp -implicitDefEqProofs (disch:=first|exact dsc|fail)[-A8d]
    exact fin S o' l' F e0 e1 e2 e3 e4 hA (fun p hp=>(hB p hp).elim (fun h=>absurd h (hd p hp)) id) hC
 rw[n1]at hi ⊢;exact key l.length l S1 o1 [] none (Nat.le_refl _) hi h1.nd (F1.trans ho.fd) ((ho.eq (by omega)).trans b0) c0 c1 c2 (by omega) (hm1.old ho) (by simp) (fun p hp=>.inl hp) (by simp)
theorem E1o(c':Nat)(hc':c'≠0)(h:A01 s o c m x t f b mc sl M)(hq:∀t' b' f' S o',Fd s S o o' (fun _=>False)->LawC S o' c' t' b' f' sl M.law->Q (lawV t' b' f' sl M.A) S):CC X 45 [.pointer (some ⟨m,0,none⟩)] Q s:=by
 have hb:=h.heap;have hlt:=h.blk.lt;have hd:=h.sld;have F0:Fd s (s.alloc (.cells [.pointer none,.slice none 0 0,.int .i64 0,.bool false,.pointer none,.pointer none] false)) o (tint o s.next c') (fun _=>False):=(Old.alloc (.refl _)).tint
 refine G4h rfl ?_
 try simp -implicitDefEqProofs (disch:=first|exact dsc|fail)[A0j A0f,hb,hd]
 have hh:=h;have hF:=F0;generalize hs1:s.alloc (.cells [.pointer none,.slice none 0 0,.int .i64 0,.bool false,.pointer none,.pointer none] false)=S at *;have nS:S.next=s.next+1:=by subst hs1;simp
 have e0:S.heap s.next=some (.cells [.pointer none,.slice none 0 0,.int .i64 0,.bool false,.pointer none,.pointer none] false):=by subst hs1;exact St.alloc_self
 have e1:tint o s.next c' s.next=c':=A0d (Nat.le_refl _)
 generalize tint o s.next c'=o' at *
 have hS:=h.fd hF (fun _ h=>h.elim) id;have hbS:=hS.heap;have hltS:=hS.blk.lt;obtain⟨ρt,hT,hTc⟩:=hS.tab;refine B5x hT fun t2 ρt2 S3 hT3 ot3 n3 n3'=>?_;have f3:Fd S S3 o' (tint o' S.next (c'+1)) (fun _=>False):=ot3.tint
 have hTab:TabC S3 (tint o' S.next (c'+1)) (c'+1) t2 M.T:=⟨ρt2,hT3,A0d n3,fun b hb=>A0d (n3' b hb)⟩
 generalize tint o' S.next (c'+1)=o3 at *
 have h3':=hS.fd f3 (fun _ h=>h.elim) id;have hb3:=h3'.heap;have hlt3:=h3'.blk.lt;have hle3:=f3.chg.le;have e03:=(f3.chg.eq (b:=s.next) (by omega) id).trans e0
 try simp -implicitDefEqProofs (disch:=first|exact dsc|fail)[hb3,e03,hd]
 refine B02 h3'.book fun b' vb ρb S4 n5 ot5 hB5 hBo hBn hBr=>?_;have f4:Fd S3 S4 o3 (tint o3 S3.next (c'+2)) (fun _=>False):=ot5.tint
 have hBook:A7r S4 (tint o3 S3.next (c'+2)) (c'+2) b' M.L:=⟨vb,ρb,hB5,hBo,hBn,(let ⟨_,_,_,_,_,g,_⟩:=h3'.book;g),A0d n5,fun r hr=>A0d (hBr r hr)⟩
 generalize tint o3 S3.next (c'+2)=o4 at *
 have h4':=h3'.fd f4 (fun _ h=>h.elim) id;have hb4:=h4'.heap;have hlt4:=h4'.blk.lt;have hle4:=f4.chg.le;have e04:=(f4.chg.eq (b:=s.next) (by omega) id).trans e03
 try simp -implicitDefEqProofs (disch:=first|exact dsc|fail)[hb4,e04,hd]
 refine B48 h4'.forest fun f' S5 n4 ot4 hF4=>?_;have f5:Fd S4 S5 o4 (tint o4 S4.next (c'+3)) (fun _=>False):=ot4.tint
 have hFor:ForC S5 (tint o4 S4.next (c'+3)) (c'+3) f' M.F:=⟨hF4,h4'.forest.len,A0d n4⟩
 generalize tint o4 S4.next (c'+3)=o5 at *
 have h5':=h4'.fd f5 (fun _ h=>h.elim) id;have hb5:=h5'.heap;have hlt5:=h5'.blk.lt;have hle5:=f5.chg.le;have e05:=(f5.chg.eq (b:=s.next) (by omega) id).trans e04
 try simp -implicitDefEqProofs (disch:=first|exact dsc|fail)[hb5,e05,hd]
 have hcol:o5 s.next=c':=(f5.col (by omega)).trans ((f4.col (by omega)).trans ((f3.col (by omega)).trans e1))
 have f6:∀y,Fd S5 (S5.put s.next y) o5 o5 (·=c'):=fun y=>⟨⟨by simp,fun {b} hb hn=>St.put_other (fun e=>hn (by rw[e];exact hcol))⟩,fun _=>rfl⟩
 have F5:Fd s S5 o o5 (fun _=>False):=((hF.trans f3).trans f4).trans f5;refine A0a (hq t2 b' f' _ o5 ⟨⟨by simpa using F5.chg.le,fun {b} hb hn=>(St.put_other (by omega)).trans (F5.chg.eq hb hn)⟩,F5.col⟩ ⟨?_,?_,?_,?_⟩)
 ·exact((hTab.fd f4 id).fd f5 id).fd (f6 _) (by omega)
 ·exact h5'.law.auto.fd (f6 _) (by omega)
 ·exact(hBook.fd f5 id).fd (f6 _) (by omega)
 ·exact hFor.fd (f6 _) (by omega)
end
end Go.Zz
set_option maxRecDepth 20000
set_option linter.all false
namespace Go.Zz
open Go
variable {X : Y0}
structure Inv(M:A02):Prop where
 idx:TOkT (fun x=>spOk x/\x.num<=M.top) M.X
 tab:∀x∈M.T,x.num<=M.top/\x.min<=M.now
 book:∀p∈M.L,p.min<=M.now/\p.until_<=1073741824
 sizes:M.vols=2/\M.blks=3
structure Less(M M':A02):Prop where
 now:M'.now=M.now
 top:M'.top=M.top
 inv:Inv M->Inv M'
theorem Less.refl{M:A02}:Less M M:=⟨rfl,rfl,id⟩
theorem Less.trans{M M' M'':A02}(h:Less M M')(g:Less M' M''):Less M M'':=⟨g.now.trans h.now,g.top.trans h.top,fun i=>g.inv (h.inv i)⟩
theorem Less.setT{M:A02}{T':List Item}(h:∀x∈T',∃y∈M.T,x.num=y.num/\x.min=y.min):Less M { M with T:=T' }:=
 ⟨rfl,rfl,fun i=>⟨i.idx,fun x hx=>by obtain⟨y,hy,e1,e2⟩:=h x hx;rw[e1,e2];exact i.tab y hy,i.book,i.sizes⟩⟩
theorem C6h{T:List Item}{n:Int}:∀x∈(tRel T n).2,∃y∈T,x.num=y.num/\x.min=y.min:=by
 intro x hx;unfold tRel at hx;split at hx
 ·exact⟨x,hx,rfl,rfl⟩
 ·split at hx
  ·exact⟨x,hx,rfl,rfl⟩
  ·split at hx
   ·exact⟨x,hx,rfl,rfl⟩
   ·obtain⟨y,hy,rfl⟩:=List.mem_map.1 hx;exact⟨y,hy,by split<;>rfl,by split<;>rfl⟩
theorem D58{T:List Item}{n:Int}:∀x∈(B94 T n).2,∃y∈T,x.num=y.num/\x.min=y.min:=by
 intro x hx;unfold B94 at hx;split at hx
 ·exact⟨x,hx,rfl,rfl⟩
 ·split at hx
  ·exact⟨x,(List.mem_filter.1 hx).1,rfl,rfl⟩
  ·exact⟨x,hx,rfl,rfl⟩
theorem B5e{L:List PutM}{n:Int}:∀p∈B3a L n,p∈L:=by
 induction L with
 | nil=>simp[B3a]
 | cons q r ih=>
  intro p hp;unfold B3a at hp;split at hp
  ·exact List.mem_cons_of_mem _ hp
  ·rcases List.mem_cons.1 hp with rfl|hp
   ·simp
   ·exact List.mem_cons_of_mem _ (ih p hp)
theorem E3a{p:A0t->Prop}{T:Option AN}{k:A0t}(h:TOkT p T):TOkT p (C9y T k).2:=by
 unfold C9y;split
 ·exact D43 h
 ·exact h
theorem Less.setX{M:A02}{k:A0t}:Less M { M with X:=(C9y M.X k).2 }:=⟨rfl,rfl,fun i=>⟨E3a i.idx,i.tab,i.book,i.sizes⟩⟩
theorem Less.setL{M:A02}{n:Int}:Less M { M with L:=B3a M.L n }:=⟨rfl,rfl,fun i=>⟨i.idx,i.tab,fun p hp=>i.book p (B5e p hp),i.sizes⟩⟩
theorem Less.setC{M:A02}{C':Int->Option A1k}:Less M { M with C:=C' }:=⟨rfl,rfl,fun i=>⟨i.idx,i.tab,i.book,i.sizes⟩⟩
theorem C6v{α:Type}{l:List (Int×α)}{n:Int}{p:Int×α}(h:p∈mdel l n):p∈l:=by
 unfold mdel at h;split at h
 ·exact List.mem_of_mem_eraseIdx h
 ·exact h
section
variable {s S : St} {o o' : Nat → Nat} {d : Nat → Prop} {c m x t f b mc : Nat} {sl : Value} {M : A02} {Q : Post}
structure FgI(s:St)(o:Nat->Nat)(c m x t f b mc:Nat)(sl:Value)(M:A02)(n:Int)(S:St)(o':Nat->Nat)(M':A02):Prop where
 fd:Fd s S o o' (inC c)
 mind:A01 S o' c m x t f b mc sl M'
 b0:Blk S s.next [.pointer (some ⟨m,0,none⟩)]
 b1:Blk S (s.next+1) [.int .u64 n]
 c0:o' s.next=0
 c1:o' (s.next+1)=0
 less:Less M M'
theorem FgI.step{n:Int}{S':St}{o'':Nat->Nat}{M' M'':A02}(h:FgI s o c m x t f b mc sl M n S o' M')(g:Fd S S' o' o'' (inC c))(hM:A01 S' o'' c m x t f b mc sl M'')(hl:Less M' M''):FgI s o c m x t f b mc sl M n S' o'' M'':=
 have h0:¬inC c 0:=by have:=h.mind.pos;unfold inC;omega
 ⟨h.fd.trans g,hM,h.b0.fd g (by rw[h.c0];exact h0),h.b1.fd g (by rw[h.c1];exact h0),(g.col h.b0.lt).trans h.c0,(g.col h.b1.lt).trans h.c1,h.less.trans hl⟩
theorem FgI.old{n:Int}{S':St}{M':A02}(h:FgI s o c m x t f b mc sl M n S o' M')(g:Old S S')(k:Nat):FgI s o c m x t f b mc sl M n S' (tint o' S.next k) M':=
 have g':Fd S S' o' (tint o' S.next k) (fun _=>False):=g.tint
 h.step (g'.mono (fun _ h=>h.elim)) (h.mind.fd g' (fun _ h=>h.elim) id) .refl
theorem FgJ1{n:Int}{M':A02}(h:FgI s o c m x t f b mc sl M n S o' M')(hq:∀e S o' M',Fd s S o o' (inC c)->A01 S o' c m x t f b mc sl M'->Less M M'->Q (.int .i64 e) S):B1m (CC X) Q s (.pointer (some ⟨s.next,0,none⟩)) (.pointer (some ⟨s.next+1,0,none⟩)) S:=by
 have b0:=h.b0.eq;have b1:=h.b1.eq;have hb:=h.mind.heap
 try simp -implicitDefEqProofs (disch:=first|exact dsc|fail)[b0,b1,hb]
 obtain⟨⟨l3,m1,m2,m3⟩,m4,m5⟩:=h.mind.cells;refine m1.del fun S4 n1 n2 n3=>?_
 try simp -implicitDefEqProofs (disch:=first|exact dsc|fail)[]
 have f4:Fd S S4 o' o' (·=c+5):=⟨⟨by omega,fun {b} hb hn=>n3 (fun e=>hn (by rw[e];exact m4))⟩,fun _=>rfl⟩
 refine A0a (hq _ _ o' _ (h.fd.trans (f4.into (by omega))) (h.mind.setC (C':=fun k=>if k=n then none else M'.C k) ⟨⟨_,n1,fun p hp=>?_,fun k=>?_⟩,m4,fun k hk=>?_⟩ f4) (h.less.trans .setC))
 ·exact⟨(m2 p (C6v hp)).1.fd f4 (by omega),(m2 p (C6v hp)).2⟩
 ·rw[D2z m1.nd];split
  ·rfl
  ·exact m3 k
 ·split at hk
  ·cases hk
  ·exact m5 k hk
theorem FgI.side{n:Int}{S':St}{M':A02}{y:Nat}(h:FgI s o c m x t f b mc sl M n S o' M')(hy:s.next<=y)(hc:∀b,y<=b->o' b=c+6)(hn:S.next<=S'.next)(he:∀b,b<y->S'.heap b=S.heap b):FgI s o c m x t f b mc sl M n S' o' M':=by
 have g:Fd S S' o' o' (·=c+6):=⟨⟨hn,fun {b} hb hne=>he b (by
  rcases Nat.lt_or_ge b y with e|e
  ·exact e
  ·exact absurd (hc b e) hne)⟩,fun _=>rfl⟩
 exact⟨⟨⟨by have:=h.fd.chg.le;omega,fun {b} hb hne=>(he b (by omega)).trans (h.fd.chg.eq hb hne)⟩,h.fd.col⟩,h.mind.fd g (fun k e=>by subst e;unfold inC;omega) (by omega),h.b0.fd g (by rw[h.c0];omega),h.b1.fd g (by rw[h.c1];omega),h.c0,h.c1,h.less⟩
theorem FgJ4{n:Int}{M':A02}{b5:Nat}{k:A1k}{v:Value}(h:FgI s o c m x t f b mc sl M n S o' M')(h5:Blk S b5 (A1z k v))(hq:∀e S o' M',Fd s S o o' (inC c)->A01 S o' c m x t f b mc sl M'->Less M M'->Q (.int .i64 e) S):A99 (CC X) Q s (.pointer (some ⟨s.next,0,none⟩)) (.pointer (some ⟨s.next+1,0,none⟩)) (.pointer (some ⟨b5,0,none⟩)) S:=by
 have b0:=h.b0.eq;have b1:=h.b1.eq;have hb:=h.mind.heap;have hb5:=h5.eq;unfold A1z at hb5;by_cases hk:k.kind=6
 ·try simp -implicitDefEqProofs (disch:=first|exact dsc|fail)[-B1m,hb5,hk,b0,hb]
  refine B02 h.mind.book fun b' vb ρb S1 n5 ot5 hB5 hBo hBn hBr=>?_;have hBook:A7r S1 (tint o' S.next (c+7)) (c+7) b' M'.L:=⟨vb,ρb,hB5,hBo,hBn,(let ⟨_,_,_,_,_,g,_⟩:=h.mind.book;g),A0d n5,fun r hr=>A0d (hBr r hr)⟩
  have h1:=h.old ot5 (c+7);generalize tint o' S.next (c+7)=oA at *
  have hle1:=ot5.le;have hns:=h.b1.lt
  try simp -implicitDefEqProofs (disch:=first|exact dsc|fail)[-B1m]
  refine B1x fun bx S2 hbx ot2 hbn=>?_;have hle2:=ot2.le;have h2:=h1.old ot2 (c+7);have hB2:=hBook.fd (ot2.tint (k:=c+7) (c:=fun _=>False)) id
  try simp -implicitDefEqProofs (disch:=first|exact dsc|fail)[-B1m]
  refine C1g fun hY=>?_;have h3:=h2.old (.refl _) (c+6);have hB3:=hB2.fd ((Old.refl S2).tint (k:=c+6) (c:=fun _=>False)) id;have hcol:∀b,S2.next<=b->tint (tint oA S1.next (c+7)) S2.next (c+6) b=c+6:=fun b hb=>A0d hb
  generalize tint (tint oA S1.next (c+7)) S2.next (c+6)=oB at *
  refine B99 (B:=fun p Q S'=>B2n (CC X) Q S2.next (A8u (.pointer (some ⟨s.next,0,none⟩)) (.pointer (some ⟨s.next+1,0,none⟩))) (.pointer (some ⟨s.next,0,none⟩)) (.pointer (some ⟨s.next+1,0,none⟩)) (.pointer (some ⟨S'.next,0,none⟩)) (S'.alloc (.cells (putE.cells p) false))) (cc:=fun b=>oB b=c+2)
   (R:=fun i Mb S9=>Mb=(fun _=>False)/\∃M9,FgI s o c m x t f b mc sl M n S9 oB M9) hB3 hbx (fun r hr e=>by omega) (fun i=>?_) (fun p Q s' hlt h1 h2=>hY _ _ _ h1 ?_) (fun i hi Mb S9 Q9 hR hch9 hyn9 hM9 hgo=>?_) ⟨rfl,_,h3⟩ (fun Mb S9 hR hch9 hM9=>?_)
  ·rintro Mb S9 S10 ⟨rfl,M9,h9⟩ hn he;exact⟨rfl,M9,h9.side (by omega) hcol hn (fun b hb=>he b (.inl hb))⟩
  ·simp -implicitDefEqProofs [-B2n,putV];rw[St.alloc_put hlt];exact⟨(St.alloc_old hlt).trans h1,h2.2⟩
  ·obtain⟨rfl,M9,h9⟩:=hR;have o10:Old S9 (S9.alloc (.cells (putE.cells M'.L[i]) false)):=by simp
   have h10:=h9.side (S':=S9.alloc (.cells (putE.cells M'.L[i]) false)) (y:=S2.next) (by omega) hcol o10.le (fun b hb=>o10.eq (by omega))
   have e5:(S9.alloc (.cells (putE.cells M'.L[i]) false)).heap S9.next=some (.cells (putE.cells M'.L[i]) false):=St.alloc_self
   have n10:(S9.alloc (.cells (putE.cells M'.L[i]) false)).next=S9.next+1:=by simp
   generalize S9.alloc (.cells (putE.cells M'.L[i]) false)=S10 at *;have d0:=h10.b0.eq;have d1:=h10.b1.eq;have d2:=h10.mind.heap;have e5':=e5;simp only[putE]at e5';by_cases hne:M'.L[i].num=n
   ·try simp -implicitDefEqProofs (disch:=first|exact dsc|fail)[e5',hne,d0,d1,d2]
    refine B73 h10.mind.book fun S11 hL f11=>?_;have h11:=h10.step (f11.into (by omega)) (h10.mind.setL hL f11) .setL
    exact hgo (fun _=>False) S11 ⟨rfl,_,h11⟩ ⟨by have:=o10.le;have:=f11.chg.le;omega,fun {b} hb hn=>(f11.chg.eq (by have:=o10.le;omega) (fun e=>hn (.inl ⟨by
     rcases Nat.lt_or_ge b S2.next with g|g
     ·exact g
     ·rw[hcol b g]at e;omega,e⟩))).trans (o10.eq hb)⟩ (fun b hb=>hb.elim)
   ·try simp -implicitDefEqProofs (disch:=first|exact dsc|fail)[e5',hne,d0,d1,d2]
    exact hgo (fun _=>False) S10 ⟨rfl,_,h10⟩ (o10.chg) (fun b hb=>hb.elim)
  ·obtain⟨rfl,M9,h9⟩:=hR;simp -implicitDefEqProofs [-B1m];exact FgJ1 h9 hq
 ·try simp -implicitDefEqProofs (disch:=first|exact dsc|fail)[-B1m,hb5,hk]
  exact FgJ1 h hq
theorem C5m{n:Int}(h:A01 s o c m x t f b mc sl M)(hq:∀e S o' M',Fd s S o o' (inC c)->A01 S o' c m x t f b mc sl M'->Less M M'->Q (.int .i64 e) S):CC X 54 [.pointer (some ⟨m,0,none⟩),.int .u64 n] Q s:=by
 have hq0:=hq;have hpos:=h.pos;refine G7o rfl ?_;have hb:=h.heap;have hlt:=h.blk.lt;obtain⟨⟨l,m1,m2,m3⟩,m4,m5⟩:=h.cells;have hlk:=m1.look1 (n:=n) (z:=.agg #[.int .i64 0,.int .u64 0,.int .i64 0,.int .i64 0,.int .i64 0,.int .i64 0,.int .u64 0,.int .i64 0,.int .i64 0,.int .i64 0,.slice none 0 0])
 try simp -implicitDefEqProofs (disch:=first|exact dsc|fail)[-B1m,-A99,-B5m,-E8v]
 generalize hs1:(s.alloc (.cells [.pointer (some ⟨m,0,none⟩)] false)).alloc (.cells [.int .u64 n] false)=s1;have o1:Old s s1:=by subst hs1;exact((Old.refl s).alloc).alloc
 have n1:s1.next=s.next+2:=by subst hs1;simp
 have b0:s1.heap s.next=some (.cells [.pointer (some ⟨m,0,none⟩)] false):=by subst hs1;simp -implicitDefEqProofs (disch:=first|exact dsc|fail)[]
 have b1:s1.heap (s.next+1)=some (.cells [.int .u64 n] false):=by subst hs1;simp -implicitDefEqProofs (disch:=first|exact dsc|fail)[]
 clear hs1;have F1:Fd s s1 o (tint o s.next 0) (fun _=>False):=o1.tint
 have hI:FgI s o c m x t f b mc sl M n s1 (tint o s.next 0) M:=⟨F1.mono (fun _ h=>h.elim),h.fd F1 (fun _ h=>h.elim) id,⟨by omega,b0⟩,⟨by omega,b1⟩,A0d (Nat.le_refl _),A0d (by omega),.refl⟩
 generalize tint o s.next 0=oA at *
 have hb1:=hI.mind.heap;have hlk1:=(m1.old o1).look1 (n:=n) (z:=.agg #[.int .i64 0,.int .u64 0,.int .i64 0,.int .i64 0,.int .i64 0,.int .i64 0,.int .u64 0,.int .i64 0,.int .i64 0,.int .i64 0,.slice none 0 0]);cases hg:mget l n with
 | none=>
  rw[hg]at hlk1
  try simp -implicitDefEqProofs (disch:=first|exact dsc|fail)[-B5m,A0j A0f,b0,b1,hb1,hlk1]
  exact A0a (hq _ _ _ _ (hI.old (by simp) 0).fd (hI.old (by simp) 0).mind .refl)
 | some p=>
  obtain⟨k,v⟩:=p;rw[hg]at hlk1;have hv:=(m2 _ (B39 hg));have hvd:=hv.1.1.data;unfold cvF A1r at hlk1
  try simp -implicitDefEqProofs (disch:=first|exact dsc|fail)[-B5m,A0j A0f,b0,b1,hb1,hlk1,hvd]
  have o2:Old s1 (s1.alloc (.cells (A1z k v) false)):=by simp
  have b2:(s1.alloc (.cells (A1z k v) false)).heap s1.next=some (.cells (A1z k v) false):=St.alloc_self
  have n2:(s1.alloc (.cells (A1z k v) false)).next=s1.next+1:=by simp
  unfold A1z at o2 b2 n2;generalize s1.alloc (.cells [.int .i64 k.kind,.int .u64 k.num,.int .i64 k.min,.int .i64 k.branch,.int .i64 k.vol,.int .i64 k.blk,.int .u64 k.ref,.int .i64 k.from,.int .i64 k.to,.int .i64 k.until_,v] false)=S2 at *
  have h2:=hI.old o2 0;have c2:tint oA s1.next 0 s1.next=0:=A0d (Nat.le_refl _)
  generalize tint oA s1.next 0=oB at *
  refine C14 h2.mind fun v3 S3 xs k1 k2 k3=>?_;have h3:=h2.old k1.old_ 0;have c3:tint oB S2.next 0 s1.next=0:=(A7c (by omega)).trans c2
  have b3:=(k1.old_.eq (b:=s1.next) (by omega)).trans b2
  generalize tint oB S2.next 0=oC at *
  have e0:=h3.b0.eq;have e1:=h3.b1.eq
  try simp -implicitDefEqProofs (disch:=first|exact dsc|fail)[-B5m,e0,e1]
  have hxl:xs.length<=((List.range 65536).map (fun i:Nat=>(i:Int))).length:=A38 (k2.imp (fun h=>by omega)) (fun q hq=>by
   have:=m5 q ((k3 q).1 hq).1;exact List.mem_map.2 ⟨q.toNat,List.mem_range.2 (by omega),by omega⟩)
  simp only[List.length_map,List.length_range]at hxl;refine B7x (k1.in_) (by omega) ?_
  by_cases hx:n∈xs
  ·try simp -implicitDefEqProofs (disch:=first|exact dsc|fail)[-B5m,hx]
   exact A0a (hq _ _ _ _ h3.fd h3.mind h3.less)
  ·try simp -implicitDefEqProofs (disch:=first|exact dsc|fail)[-B5m,hx]
   have hvd3:=hvd;have e2:=h3.mind.heap
   try simp -implicitDefEqProofs (disch:=first|exact dsc|fail)[-A99,b3,e0,e1,e2,hvd]
   refine B00 (c:=k) (v:=v) ?_ hvd;have hlt3:s1.next<S3.next:=by have:=k1.old_.le;omega
   cases hm:decide (k.kind=1)||decide (k.kind=2)||decide (k.kind=3)
   ·try simp -implicitDefEqProofs (disch:=first|exact dsc|fail)[-A99,hm]
    rw[n1]at *;exact FgJ4 h3 ⟨hlt3,b3⟩ hq
   ·try simp -implicitDefEqProofs (disch:=first|exact dsc|fail)[-A99,hm,b3,e0,e1,e2,hvd]
    have hp0:¬inC c 0:=by unfold inC;omega
    refine C77 (k:=⟨k.branch,k.vol,k.blk,n⟩) h3.mind.idx (by omega) fun S4 o4 x4 f4=>?_
    have h4:=h3.step (f4.into (by omega)) (h3.mind.setX x4 f4) .setX
    have c4:=(f4.col hlt3).trans c3;have b4:=(f4.chg.eq (b:=s1.next) hlt3 (by rw[c3];omega)).trans b3
    have hlt4:s1.next<S4.next:=by have:=f4.chg.le;omega
    have d0:=h4.b0.eq;have d1:=h4.b1.eq;have d2:=h4.mind.heap
    try simp -implicitDefEqProofs (disch:=first|exact dsc|fail)[-A99,d0,d1,d2]
    refine C1t h4.mind.tab fun S5 o5 x5 f5=>?_;have h5:=h4.step (f5.into (by omega)) (h4.mind.setT x5 f5) (.setT C6h)
    have c5:=(f5.col hlt4).trans c4;have b5:=(f5.chg.eq (b:=s1.next) hlt4 (by rw[c4];omega)).trans b4
    have hlt5:s1.next<S5.next:=by have:=f5.chg.le;omega
    have g0:=h5.b0.eq;have g1:=h5.b1.eq;have g2:=h5.mind.heap
    try simp -implicitDefEqProofs (disch:=first|exact dsc|fail)[-A99,g0,g1,g2]
    refine C8d h5.mind.tab fun S6 o6 x6 f6=>?_;have h6:=h5.step (f6.into (by omega)) (h5.mind.setT x6 f6) (.setT D58)
    have b6:=(f6.chg.eq (b:=s1.next) hlt5 (by rw[c5];omega)).trans b5
    have hlt6:s1.next<S6.next:=by have:=f6.chg.le;omega
    try simp -implicitDefEqProofs (disch:=first|exact dsc|fail)[-A99]
    rw[n1]at *;exact FgJ4 h6 ⟨hlt6,b6⟩ hq
end
end Go.Zz
