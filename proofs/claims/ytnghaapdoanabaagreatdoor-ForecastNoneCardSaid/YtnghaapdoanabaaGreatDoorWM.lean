import Derived.Test.YtnghaapdoanabaaGreatDoorWL
set_option linter.all false
set_option maxRecDepth 20000
set_option linter.all false
namespace Go.Zz
open Go
variable {X : Y0}
def C0c:(h:Nat)->NT h->A0t->Option AN->List A0t×Option AN
 | 0,t,_,nx=>(A0m t,nx)
 | h+1,t,k,nx=>match(kids t)[(fIn (A0y (h+1) t) k).1]? with
  | some u=>C0c h u k (match(kids t)[(fIn (A0y (h+1) t) k).1+1]? with
   | some w=>some ⟨h,w⟩
   | none=>nx)
  | none=>([],none)
def A5m(T:Option AN)(k:A0t):List A0t×Option AN:=match T with
 | none=>([],none)
 | some a=>C0c a.1 a.2 k none
def tHas(T:Option AN)(k:A0t):Bool:=(A07 (A5m T k).1 k).2
def D21(h:Nat)(ts:List (NT h)):AN:=match ts with
 | [u]=>⟨h,u⟩
 | l=>⟨h+1,mkN l⟩
def tPut(T:Option AN)(k:A0t):AN:=match T with
 | none=>⟨0,mk0 [k]⟩
 | some a=>D21 a.1 (putN a.1 a.2 k)
def tDel(T:Option AN)(k:A0t):Option AN:=match T with
 | none=>none
 | some a=>match delN a.1 a.2 k with
  | none=>T
  | some u=>C6q (topN a.1 u)
def B75(l:List A0t)(k:A0t):Option A0t:=if(A07 l k).2 then l[(A07 l k).1]? else if(A07 l k).1=0 then none else l[(A07 l k).1-1]?
def C82(l:List A0t)(k:A0t):Option A0t:=l[(A07 l k).1]?
def B5y(T:Option AN)(k:A0t):Option A0t:=B75 (A5m T k).1 k
def E3t(T:Option AN)(k:A0t):Option A0t:=match C82 (A5m T k).1 k with
 | some x=>some x
 | none=>match(A5m T k).2 with
  | none=>none
  | some a=>C82 (A5m T (A1x a.1 a.2)).1 (A1x a.1 a.2)
def TOkT(p:A0t->Prop)(T:Option AN):Prop:=∀a,T=some a->OkN p a.1 a.2
section
variable {p : A0t → Prop}
theorem C67:∀{h:Nat} {t:NT h} {k:A0t} {nx:Option AN},OkN p h t->(∀a,nx=some a->OkN p a.1 a.2)->(C0c h t k nx).1.length<=4/\(∀x∈(C0c h t k nx).1,p x)/\(∀a,(C0c h t k nx).2=some a->OkN p a.1 a.2)
 | 0,t,k,nx,ho,hx=>⟨ho.1,ho.2,hx⟩
 | h+1,t,k,nx,ho,hx=>by
  simp only[C0c];cases hu:(kids t)[(fIn (A0y (h+1) t) k).1]? with
  | none=>exact⟨by simp,by simp,fun a e=>by cases e⟩
  | some u=>
   obtain⟨hi,he⟩:=List.getElem?_eq_some_iff.1 hu;refine C67 (ho.2.2 u (by rw[<-he];exact List.getElem_mem hi)) fun a ha=>?_
   cases hw:(kids t)[(fIn (A0y (h+1) t) k).1+1]? with
   | none=>rw[hw]at ha;exact hx a ha
   | some w=>
    rw[hw]at ha;cases ha;obtain⟨hi2,he2⟩:=List.getElem?_eq_some_iff.1 hw;exact ho.2.2 w (by rw[<-he2];exact List.getElem_mem hi2)
theorem B1l{T:Option AN}{k:A0t}(hT:TOkT p T):(A5m T k).1.length<=4/\(∀x∈(A5m T k).1,p x)/\(∀a,(A5m T k).2=some a->OkN p a.1 a.2):=by
 cases T with
 | none=>exact⟨by simp[A5m],by simp[A5m],fun a e=>by simp[A5m]at e⟩
 | some a=>exact C67 (hT a rfl) (fun a e=>by cases e)
theorem D2u{T:Option AN}{k x:A0t}(hT:TOkT p T)(hx:B5y T k=some x):p x:=by
 obtain⟨_,h,_⟩:=B1l (k:=k) hT;unfold B5y B75 at hx;split at hx
 ·exact h x (List.mem_of_getElem? hx)
 ·split at hx
  ·cases hx
  ·exact h x (List.mem_of_getElem? hx)
theorem D5p{T:Option AN}{k:A0t}(hT:TOkT p T)(hk:p k):OkN p (tPut T k).1 (tPut T k).2:=by
 cases T with
 | none=>
  show OkN p 0 (mk0 [k]);exact⟨by simp,by simpa using hk⟩
 | some a=>
  have h1:=D38 (hT a rfl) hk;have h2:=B1w (h:=a.1) (t:=a.2) (k:=k);show OkN p (D21 a.1 (putN a.1 a.2 k)).1 (D21 a.1 (putN a.1 a.2 k)).2
  match hl:putN a.1 a.2 k with
  | [u]=>exact h1 u (by rw[hl];simp)
  | []=>rw[hl]at h2;simp at h2
  | u::w::r=>
   show OkN p (a.1+1) (mkN (u::w::r));exact⟨by simp,by rw[hl]at h2;simp only[List.length_cons,C6o]at h2 ⊢;omega,fun x hx=>h1 x (by rw[hl];exact hx)⟩
theorem D43{T:Option AN}{k:A0t}(hT:TOkT p T):TOkT p (tDel T k):=by
 intro b hb;cases T with
 | none=>cases hb
 | some a=>
  simp only[tDel]at hb;cases hd:delN a.1 a.2 k with
  | none=>rw[hd]at hb;exact hT b hb
  | some u=>
   rw[hd]at hb;simp only[C6q]at hb;split at hb
   ·cases hb
   ·cases hb;exact D7v (B8e (hT a rfl) hd)
end
def B2m(s:St)(o:Nat->Nat)(r:Value):Option AN->Prop
 | none=>r=.pointer none
 | some a=>∃n,r=.pointer (some ⟨n,0,none⟩)/\A1w s o a.1 n a.2
def A6u(s:St)(o:Nat->Nat)(t:Nat)(T:Option AN):Prop:=∃r i,Blk s t [r,.int .i64 i]/\o t=0/\B2m s o r T
theorem B2m.fd{s S:St}{o o':Nat->Nat}{d:Nat->Prop}{r:Value}{T:Option AN}(h:B2m s o r T)(g:Fd s S o o' d)(hd:¬d 0):B2m S o' r T:=by
 cases T with
 | none=>exact h
 | some a=>obtain⟨n,h1,h2⟩:=h;exact⟨n,h1,h2.fd g hd⟩
theorem A6u.fd{s S:St}{o o':Nat->Nat}{d:Nat->Prop}{t:Nat}{T:Option AN}(h:A6u s o t T)(g:Fd s S o o' d)(hd:¬d 0):A6u S o' t T:=by
 obtain⟨r,i,h1,h2,h3⟩:=h;exact⟨r,i,h1.fd g (by rw[h2];exact hd),(g.col h1.lt).trans h2,h3.fd g hd⟩
theorem A6u.old{s S:St}{o:Nat->Nat}{t:Nat}{T:Option AN}(h:A6u s o t T)(g:Old s S):A6u S o t T:=h.fd (d:=fun _=>False) g.fd (fun h=>h)
theorem B2m.val{s:St}{o:Nat->Nat}{r:Value}{T:Option AN}(h:B2m s o r T):data r=true/\r.cells=#[r]/\Bel s.next r:=by
 cases T with
 | none=>rw[show r=.pointer none from h];exact⟨rfl,rfl,by simp⟩
 | some a=>obtain⟨n,h1,h2⟩:=h;subst h1;exact⟨rfl,rfl,by have:=h2.lt;simpa using this⟩
section
variable {s : St} {o : Nat → Nat} {p : A0t → Prop} {t : Nat} {T : Option AN} {k : A0t} {Q : Post} {r : Value}
theorem C7z{i:Int}(h:Blk s t [r,.int .i64 i])(hq:Q r s):CC X 153 [.pointer (some ⟨t,0,none⟩)] Q s:=by
 refine D6w rfl ?_
 try simp -implicitDefEqProofs (disch:=first|exact dsc|fail)[A0j A31,h.eq]
 exact hq
theorem C12(h:A6u s o t T)(hq:∀r,B2m s o r T->Q r s):CC X 153 [.pointer (some ⟨t,0,none⟩)] Q s:=by
 obtain⟨r,i,h1,h2,h3⟩:=h;refine D6w rfl ?_
 try simp -implicitDefEqProofs (disch:=first|exact dsc|fail)[A0j A31,h1.eq]
 exact hq r h3
theorem B4d(h:A6u s o t T)(hq:∀i,Q (.int .i64 i) s):CC X 154 [.pointer (some ⟨t,0,none⟩)] Q s:=by
 obtain⟨r,i,h1,h2,h3⟩:=h;refine F31 rfl ?_
 try simp -implicitDefEqProofs (disch:=first|exact dsc|fail)[A0j A31,h1.eq]
 exact hq i
theorem D6c(hq:∀t S o',Fd s S o o' (fun _=>False)->A6u S o' t none->Q (.pointer (some ⟨t,0,none⟩)) S):CC X 89 [] Q s:=by
 refine G6l rfl ?_
 try simp -implicitDefEqProofs (disch:=first|exact dsc|fail)[]
 exact A0a (hq s.next _ (tint o s.next 0) (Old.alloc (.refl _)).tint ⟨.pointer none,0,⟨by simp,by simp⟩,A0d (Nat.le_refl _),rfl⟩)
theorem B1r(h:A6u s o t T)(hT:TOkT p T)(hq:∀r1 r2,B2m s o r1 (T.map fun _=>⟨0,mk0 (A5m T k).1⟩)->B2m s o r2 (A5m T k).2->Q (.tuple #[r1,r2]) s):CC X 150 [.pointer (some ⟨t,0,none⟩),A5b k] Q s:=by
 refine F1y rfl ?_;have o1:Old s (s.alloc (.cells [.int .i64 k.br,.int .i64 k.vol,.int .i64 k.blk,.int .u64 k.num] false)):=by simp
 have b0:(s.alloc (.cells [.int .i64 k.br,.int .i64 k.vol,.int .i64 k.blk,.int .u64 k.num] false)).heap s.next=some (.cells [.int .i64 k.br,.int .i64 k.vol,.int .i64 k.blk,.int .u64 k.num] false):=St.alloc_self
 try simp -implicitDefEqProofs (disch:=first|exact dsc|fail)[]
 generalize hs1:s.alloc (.cells [.int .i64 k.br,.int .i64 k.vol,.int .i64 k.blk,.int .u64 k.num] false)=s1 at *;obtain⟨r,ii,hb,hc,hr⟩:=h;refine C7z (hb.old o1) ?_;cases T with
 | none=>
  have hr:r=.pointer none:=hr;subst hr
  try simp -implicitDefEqProofs (disch:=first|exact dsc|fail)[B0a A0g]
  exact A0b o1 (A0p (by simp)) (hq _ _ rfl rfl)
 | some a=>
  obtain⟨n,rfl,hn⟩:=hr
  try simp -implicitDefEqProofs (disch:=first|exact dsc|fail)[A0j A0g]
  refine C89 fun I hI=>?_;have key:∀(h' n:Nat) (w:NT h') (nx:Option AN) (r2:Value),OkN p h' w->A1w s o h' n w->B2m s o r2 nx->C0c h' w k nx=A5m (some a) k->I (.pointer (some ⟨s.next,0,none⟩)) (.pointer (some ⟨n,0,none⟩)) r2 s1:=by
   intro h';induction h' with
   | zero=>
    intro n w nx r2 how hw hr2 he;refine hI _ _ _ _ ?_
    try simp -implicitDefEqProofs (disch:=first|exact dsc|fail)[]
    refine A1n (hw.old o1) how ?_
    try simp -implicitDefEqProofs (disch:=first|exact dsc|fail)[]
    have hlt:=hw.lt;have hb:=hr2.val.2.2;simp only[C0c]at he;refine A0b o1 (A0p (by simp[hlt,hb])) (hq _ _ ⟨n,rfl,?_⟩ ?_)
    ·rw[<-he];exact hw
    ·rw[<-he];exact hr2
   | succ h' ih=>
    intro n w nx r2 how hw hr2 he;refine hI _ _ _ _ ?_
    try simp -implicitDefEqProofs (disch:=first|exact dsc|fail)[]
    have hw1:=hw.old o1;refine A1n hw1 how ?_
    try simp -implicitDefEqProofs (disch:=first|exact dsc|fail)[b0]
    refine A7t hw1 how ?_;obtain⟨g1,g2,g3⟩:=id how;obtain⟨kv,dv,ps,h10,h20,h30,h40,h5⟩:=hw.kids;have h1:=h10.old o1;have h4:=h40.old o1;have hps:=h5.1;have hi:=C53 (l:=A0y (h'+1) w) (k:=k) (by rw[A4a];exact g1)
    rw[A4a]at hi;have hi:(fIn (A0y (h'+1) w) k).1<(kids w).length:=hi;have hl4:=fun S=>h4.1.len (P:=P) (s':=S) A0k;have hff:B6o (h'+1) w k=fIn (A0y (h'+1) w) k:=if_neg (by omega)
    rw[hff];simp only[C0c]at he;rw[List.getElem?_eq_getElem hi]at he;simp only at he;generalize (fIn (A0y (h'+1) w) k).1=i at *;have hip:i<ps.length:=by omega
    have x1:=h5.2 i hip hi;by_cases hnx:i+1<ps.length
    ·have hnxi:(i:Int)+1<ps.length:=by omega
     have hnx2:i+1<(kids w).length:=by omega
     have ei:((i:Int)+1).toNat=i+1:=by omega
     have hx2:=h4.1.one (n:=1) hnx;rw[List.getElem?_eq_getElem hnx2]at he
     try simp -implicitDefEqProofs (disch:=first|exact dsc|fail)[h1.eq,hl4,hnxi,h4.1.idx,h4.1.one,hip,ei,hx2]
     exact ih ps[i] (kids w)[i] (some ⟨h',(kids w)[i+1]⟩) _ (g3 _ (List.getElem_mem hi)) x1 ⟨ps[i+1],rfl,h5.2 (i+1) hnx hnx2⟩ he
    ·have hnxi:¬(i:Int)+1<ps.length:=by omega
     rw[List.getElem?_eq_none (by omega:(kids w).length<=i+1)]at he
     try simp -implicitDefEqProofs (disch:=first|exact dsc|fail)[h1.eq,hl4,hnxi,h4.1.idx,h4.1.one,hip]
     exact ih ps[i] (kids w)[i] nx _ (g3 _ (List.getElem_mem hi)) x1 hr2 he
  exact key a.1 n a.2 none _ (hT a rfl) hn rfl rfl
def A5y(x:Option A0t):Value:=.tuple #[A5b (x.getD sp0),.int .u64 ((x.map (·.num)).getD 0),.bool x.isSome]
theorem C54{f:Value}(hq:Q (A5y none) s):CC X 186 [.pointer none,A5b k,f] Q s:=by
 refine D2k rfl ?_
 try simp -implicitDefEqProofs (disch:=first|exact dsc|fail)[B0a A0g]
 exact A0b (by repeat (first|exact Old.refl _|apply Old.alloc)) (A0p (by simp)) hq
theorem C2v{n:Nat}{t:NT 0}{f:Value}{c:Int}(hn:A1w s o 0 n t)(ho:OkN p 0 t)(hc:∀(Q:Post) S,Q (.int .i64 c) S->A0u P (CC X) f [.int .i64 (A07 (A0m t) k).1,.bool (A07 (A0m t) k).2] Q S)
  (hq:Q (A5y (if 0<=c then(A0m t)[c.toNat]? else none)) s):CC X 186 [.pointer (some ⟨n,0,none⟩),A5b k,f] Q s:=by
 have hlt:=hn.lt;have h4l:=ho.1;obtain⟨kv,vv,h1,h2,h3,h4⟩:=id hn;have hl3:=fun S=>h3.1.len (P:=P) (s':=S) A0i;refine D2k rfl ?_;have o1:Old s (s.alloc (.cells [.int .i64 k.br,.int .i64 k.vol,.int .i64 k.blk,.int .u64 k.num] false)):=by simp
 have b0:(s.alloc (.cells [.int .i64 k.br,.int .i64 k.vol,.int .i64 k.blk,.int .u64 k.num] false)).heap s.next=some (.cells [.int .i64 k.br,.int .i64 k.vol,.int .i64 k.blk,.int .u64 k.num] false):=St.alloc_self
 try simp -implicitDefEqProofs (disch:=first|exact dsc|fail)[A0j A0g]
 generalize hs1:s.alloc (.cells [.int .i64 k.br,.int .i64 k.vol,.int .i64 k.blk,.int .u64 k.num] false)=s1 at *;have n1:s1.next=s.next+1:=by rw[<-hs1];simp
 have o2:Old s1 (s1.alloc (.cells [.int .i64 0,.int .i64 0,.int .i64 0,.int .u64 0] false)):=by simp
 have b1:(s1.alloc (.cells [.int .i64 0,.int .i64 0,.int .i64 0,.int .u64 0] false)).heap s1.next=some (.cells [.int .i64 0,.int .i64 0,.int .i64 0,.int .u64 0] false):=St.alloc_self
 have b0':=(o2.eq (b:=s.next) (by omega)).trans b0
 have n2:(s1.alloc (.cells [.int .i64 0,.int .i64 0,.int .i64 0,.int .u64 0] false)).next=s.next+1+1:=by simp[n1]
 generalize hs2:s1.alloc (.cells [.int .i64 0,.int .i64 0,.int .i64 0,.int .u64 0] false)=s2 at *;have oA:=o1.trans o2;refine A7t (hn.old oA) ho ?_;have hff:B6o 0 t k=A07 (A0m t) k:=if_pos rfl;rw[hff]
 try simp -implicitDefEqProofs (disch:=first|exact dsc|fail)[]
 refine hc _ _ ?_;have h1':=h1.old oA;have h3':=h3.old oA;have h4':=h4.old oA;rw[n1]at b1;by_cases hc0:c<0
 ·rw[if_neg (by omega)]at hq
  try simp -implicitDefEqProofs (disch:=first|exact dsc|fail)[hc0,n1,b1]
  exact A0b (oA.put (by omega)) (A0p (by simp)) hq
 ·rw[if_pos (by omega)]at hq
  by_cases hc1:((A0m t).length:Int)<=c
  ·rw[List.getElem?_eq_none (by omega)]at hq
   try simp -implicitDefEqProofs (disch:=first|exact dsc|fail)[hc0,n1,b1,h1'.eq,hl3,hc1]
   exact A0b (oA.put (by omega)) (A0p (by simp)) hq
  ·have hi:c.toNat<(A0m t).length:=by omega
   have hci:c=(c.toNat:Int):=by omega
   generalize c.toNat=i at *;subst hci;rw[List.getElem?_eq_getElem hi]at hq;have hi2:i<((A0m t).map (·.num)).length:=by simpa using hi
   have hg:=h4'.1.one (n:=1) hi2;simp only[A9l,List.getElem_map]at hg;have hgg:A04 (some (false,1)) (A7p vv i) s2=some (.int .u64 (A0m t)[i].num):=hg;have h4p:(intE .u64).In (s2.put (s.next+1) (.cells (A0s.cells (A0m t)[i]) false)) vv ((A0m t).map (·.num)):=((h4.old ((oA.put (b:=s.next+1) (x:=.cells (A0s.cells (A0m t)[i]) false) (by omega)))).1)
   have hg2:=h4p.one (n:=1) hi2;simp only[A9l,List.getElem_map,A1p]at hg2;have hgg2:A04 (some (false,1)) (A7p vv i) (s2.put (s.next+1) (.cells [.int .i64 (A0m t)[i].br,.int .i64 (A0m t)[i].vol,.int .i64 (A0m t)[i].blk,.int .u64 (A0m t)[i].num] false))=some (.int .u64 (A0m t)[i].num):=hg2
   try simp -implicitDefEqProofs (disch:=first|exact dsc|fail)[hc0,n1,b1,h1'.eq,hl3,hc1,h3'.1.idx,h3'.1.agg,h4'.1.idx,hgg,hi]
   exact⟨hgg2,A0b (oA.put (by omega)) (A0p (by simp)) hq⟩
theorem E08(hq:Q (.tuple #[.int .i64 0,.bool false]) s):CC X 151 [.pointer none,A5b k] Q s:=by
 refine D9o rfl ?_
 try simp -implicitDefEqProofs (disch:=first|exact dsc|fail)[B0a A0g]
 exact A0b (by repeat (first|exact Old.refl _|apply Old.alloc)) (A0p (by simp)) hq
theorem C6s(h:A6u s o t T)(hT:TOkT p T)(hq:Q (.tuple #[.int .u64 (if tHas T k then k.num else 0),.bool (tHas T k)]) s):CC X 124 [.pointer (some ⟨t,0,none⟩),A5b k] Q s:=by
 refine F11 rfl ?_;have o1:Old s (s.alloc (.cells [.int .i64 k.br,.int .i64 k.vol,.int .i64 k.blk,.int .u64 k.num] false)):=by simp
 have b0:(s.alloc (.cells [.int .i64 k.br,.int .i64 k.vol,.int .i64 k.blk,.int .u64 k.num] false)).heap s.next=some (.cells [.int .i64 k.br,.int .i64 k.vol,.int .i64 k.blk,.int .u64 k.num] false):=St.alloc_self
 try simp -implicitDefEqProofs (disch:=first|exact dsc|fail)[]
 generalize hs1:s.alloc (.cells [.int .i64 k.br,.int .i64 k.vol,.int .i64 k.blk,.int .u64 k.num] false)=s1 at *;refine B1r (h.old o1) hT fun r1 r2 h1 h2=>?_
 try simp -implicitDefEqProofs (disch:=first|exact dsc|fail)[b0]
 unfold tHas at hq;have hok:=B1l (k:=k) hT;cases T with
 | none=>
  have h1:r1=.pointer none:=h1;subst h1;refine E08 ?_
  try simp -implicitDefEqProofs (disch:=first|exact dsc|fail)[]
  exact A0b o1 (A0p (by simp)) (by simpa[A5m,A07]using hq)
 | some a=>
  obtain⟨n,rfl,hn⟩:=h1;refine A7t hn ⟨hok.1,hok.2.1⟩ ?_;have hff:B6o 0 (mk0 (A5m (some a) k).1) k=A07 (A5m (some a) k).1 k:=if_pos rfl;rw[hff];by_cases hh:(A07 (A5m (some a) k).1 k).2=true
  ·obtain⟨hi,he⟩:=B10 hh;obtain⟨kv,vv,g1,g2,g3,g4⟩:=hn;simp only[B16]at g3 g4;generalize (A5m (some a) k).1=l at *;generalize (A07 l k).1=i at *;have hi2:i<(l.map (·.num)).length:=by simpa using hi
   have hg:=g4.1.one (n:=1) hi2;simp only[A9l,List.getElem_map,he]at hg;have hgg:A04 (some (false,1)) (A7p vv i) s1=some (.int .u64 k.num):=hg
   try simp -implicitDefEqProofs (disch:=first|exact dsc|fail)[hh,g1.eq,g4.1.idx,hi,hgg]
   exact A0b o1 (A0p (by simp)) (by simpa[hh]using hq)
  ·try simp -implicitDefEqProofs (disch:=first|exact dsc|fail)[hh]
   exact A0b o1 (A0p (by simp)) (by simpa[hh]using hq)
theorem D78(hr:B2m s o r T)(hT:TOkT p T)(hq:∀(h:Nat) (ts:List (NT h)) v qs S o',Fd s S o o' (fun _=>False)->Im ptrE S o' v qs->A1i S o' h qs ts->(ts.length=1\/ts.length=2)->D21 h ts=tPut T k->Q v S):CC X 253 [r,A5b k,.int .u64 k.num] Q s:=by
 cases T with
 | none=>
  rw[show r=.pointer none from hr]
  exact C1r (o:=o) fun v qs S o' f1 x1 x2=>hq 0 [mk0 [k]] v qs S o' f1 x1 x2 (.inl rfl) rfl
 | some a=>
  obtain⟨n,rfl,hn⟩:=hr;exact C2f hn (hT a rfl) fun v qs S o' f1 x1 x2=>hq a.1 _ v qs S o' f1 x1 x2 B1w rfl
theorem D8z(h:A6u s o t T)(hT:TOkT p T)(hq:∀t' S o',Fd s S o o' (fun _=>False)->A6u S o' t' (some (tPut T k))->Q (.pointer (some ⟨t',0,none⟩)) S):CC X 251 [.pointer (some ⟨t,0,none⟩),A5b k,.int .u64 k.num] Q s:=by
 refine F7d rfl ?_;have o1:Old s (s.alloc (.cells [.int .i64 k.br,.int .i64 k.vol,.int .i64 k.blk,.int .u64 k.num] false)):=by simp
 have b0:(s.alloc (.cells [.int .i64 k.br,.int .i64 k.vol,.int .i64 k.blk,.int .u64 k.num] false)).heap s.next=some (.cells [.int .i64 k.br,.int .i64 k.vol,.int .i64 k.blk,.int .u64 k.num] false):=St.alloc_self
 try simp -implicitDefEqProofs (disch:=first|exact dsc|fail)[-B5b,-B5w,-B5t,-B4z,-B0g]
 generalize hs1:s.alloc (.cells [.int .i64 k.br,.int .i64 k.vol,.int .i64 k.blk,.int .u64 k.num] false)=s1 at *;have h1:=h.old o1;refine B4d h1 fun n=>?_
 try simp -implicitDefEqProofs (disch:=first|exact dsc|fail)[-B5b,-B5w,-B5t,-B4z,-B0g,b0]
 refine C6s h1 hT ?_;have key:∀m:Int,B0g (CC X) Q s (.pointer (some ⟨t,0,none⟩)) (.int .u64 k.num) (.pointer (some ⟨s.next,0,none⟩)) (.int .i64 m) s1:=by
  intro m
  try simp -implicitDefEqProofs (disch:=first|exact dsc|fail)[b0]
  refine C12 h1 fun r hr=>?_
  try simp -implicitDefEqProofs (disch:=first|exact dsc|fail)[b0]
  refine D78 hr hT fun h' ts v qs S o' f1 x1 x2 x3 x4=>?_;have oS:=o1.fd.trans f1;have hql:=x2.1;have hl:=fun S=>x1.1.len (P:=P) (s':=S) A0k;by_cases h1l:ts.length=1
  ·have hq1:(qs.length:Int)=1:=by omega
   have hi:=fun(q:IntKind)=>x1.1.idx (q:=q) (ag:=false) (j:=0) (by omega) (by omega)
   have hg:=x1.1.one (i:=0) (n:=1) (by omega)
   simp only[Int.toNat_zero,Nat.zero_mul,B77]at hi hg;obtain⟨u,rfl⟩:∃u,ts=[u]:=List.length_eq_one_iff.1 h1l;have hN:=x2.2 0 (by omega) (by simp)
   try simp -implicitDefEqProofs (disch:=first|exact dsc|fail)[hl,hq1,hi,hg]
   have f2:Fd S (S.alloc (.cells [.pointer (some ⟨qs[0]'(by omega),0,none⟩),.int .i64 m] false)) o' (tint o' S.next 0) (fun _=>False):=(Old.alloc (.refl _)).tint
   refine A0a (hq S.next _ _ (oS.trans f2) ⟨.pointer (some ⟨qs[0]'(by omega),0,none⟩),m,⟨by simp,by simp⟩,A0d (Nat.le_refl _),?_⟩)
   rw[<-x4];exact⟨_,rfl,hN.fd f2 (fun h=>h)⟩
  ·have hq1:¬(qs.length:Int)=1:=by omega
   have d1:=x1.1.data
   try simp -implicitDefEqProofs (disch:=first|exact dsc|fail)[hl,hq1,d1]
   have hlts:ts.length=2:=x3.resolve_left h1l;have hkl:(ts.map (A1x h')).length=ts.length:=by simp
   refine D1e fun I hI=>?_;refine up (n:=qs.length) (M:=fun i=>∀kv ρ S2,Old S S2->S2.heap S.next=some (.cells [kv,.slice none 0 0,v] false)->S.next<S2.next->A0s.Own S2 kv ρ ((ts.map (A1x h')).take i)->(∀b,ρ=some b->S.next<b)->I (.int .i64 m) (.pointer (some ⟨S.next,0,none⟩)) v (.int .i64 qs.length) (.int .i64 i) S2) (fun i hi ih kv ρ S2 oS2 hb hlt hown hρ=>?_) 0 (Nat.zero_le _) (.slice none 0 0) none _ (by simp) (by simp) (by simp) .nil (fun b e=>by cases e)
   refine hI _ _ _ _ _ _ ?_;have hdS:=x1.old oS2;have hnS:=x2.old oS2;by_cases hlt2:i<qs.length
   ·have hi2:i<ts.length:=by omega
    try simp -implicitDefEqProofs (disch:=first|exact dsc|fail)[hlt2,hdS.1.idx,hdS.1.one]
    refine B2k (hnS.2 i hlt2 hi2) fun bb=>?_;have hb':(S2.alloc (.cells [.int .i64 (A1x h' ts[i]).br,.int .i64 (A1x h' ts[i]).vol,.int .i64 (A1x h' ts[i]).blk,.int .u64 (A1x h' ts[i]).num] false)).heap S.next=some (.cells [kv,.slice none 0 0,v] false):=by rw[St.alloc_old hlt];exact hb
    try simp -implicitDefEqProofs (disch:=first|exact dsc|fail)[hb,hb']
    have hown':=hown.same (s':=S2.alloc (.cells [.int .i64 (A1x h' ts[i]).br,.int .i64 (A1x h' ts[i]).vol,.int .i64 (A1x h' ts[i]).blk,.int .u64 (A1x h' ts[i]).num] false)) (by simp) (fun b hb=>St.alloc_old (by subst hb;exact hown.lt))
    refine hown'.pushC (a:=A1x h' ts[i]) A5h A5j (by rfl) (by rfl) (by simp;omega) (by simp;omega) ?_ fun v' S3 ρ' w1 w2 w3=>?_
    ·try simp -implicitDefEqProofs (disch:=first|exact dsc|fail)[hb]
    ·have hb3:S3.heap S.next=some (.cells [kv,.slice none 0 0,v] false):=(w2.eq (by simp;omega) (fun e=>by have:=hρ _ e;omega)).trans hb'
     have hle3:=w2.le;simp only[St.alloc_next]at hle3;have hρ':∀b,ρ'=some b->S.next<b:=fun b hb=>(w3 b hb).elim (fun e=>hρ b e) (fun e=>by simp at e;omega)
     try simp -implicitDefEqProofs (disch:=first|exact dsc|fail)[hb3,w1.in_.data]
     refine ih hlt2 v' ρ' _ ⟨by simp;omega,fun {b} hb=>?_⟩ (by simp) (by simp;omega) ?_ hρ'
     ·rw[St.put_other (by omega),w2.eq (by simp;omega) (fun e=>by have:=hρ _ e;omega),St.alloc_old (by omega),oS2.eq hb]
     ·rw[A2w (by simpa using hi2)]
      have:=w1.same (s':=S3.put S.next (.cells [v',.slice none 0 0,v] false)) (by simp) (fun b hb=>St.put_other (by have:=hρ' b hb;omega))
      simpa using this
   ·have hie:i=qs.length:=by omega
    subst hie;have e:(ts.map (A1x h')).take qs.length=ts.map (A1x h'):=by rw[hql,<-hkl,List.take_length]
    rw[e]at hown
    try simp -implicitDefEqProofs (disch:=first|exact dsc|fail)[hlt2]
    have hf:=oS2.tint (o:=o') (k:=0) (c:=fun _=>False);have hN:A1w S2 (tint o' S.next 0) (h'+1) S.next (mkN ts):=by
     refine A1w.mk ⟨hlt,hb⟩ (A0d (Nat.le_refl _)) ⟨hown.in_,fun hx a l c e=>?_⟩ (x1.fd hf (fun h=>h)) (x2.fd hf (fun h=>h));obtain⟨b,c',post,tl,rfl,rfl,_⟩:=hown.ne hx;cases e;exact A0d (Nat.le_of_lt (hρ b rfl))
    have f2:Fd S2 (S2.alloc (.cells [.pointer (some ⟨S.next,0,none⟩),.int .i64 m] false)) (tint o' S.next 0) (tint (tint o' S.next 0) S2.next 0) (fun _=>False):=(Old.alloc (.refl _)).tint
    refine A0a (hq S2.next _ _ ((oS.trans hf).trans f2) ⟨.pointer (some ⟨S.next,0,none⟩),m,⟨by simp,by simp⟩,A0d (Nat.le_refl _),?_⟩)
    have e5:D21 h' ts=⟨h'+1,mkN ts⟩:=by
     match ts,hlts with
     | [a,b],_=>rfl
    rw[<-x4,e5];exact⟨_,rfl,hN.fd f2 (fun h=>h)⟩
 by_cases hh:tHas T k=true
 ·try simp -implicitDefEqProofs (disch:=first|exact dsc|fail)[-B5b,-B5w,-B5t,-B4z,-B0g,hh]
  exact key _
 ·try simp -implicitDefEqProofs (disch:=first|exact dsc|fail)[-B5b,-B5w,-B5t,-B4z,-B0g,hh]
  exact key _
theorem D27(h:A6u s o t T)(hT:TOkT p T)(hq:∀t' S o',Fd s S o o' (fun _=>False)->A6u S o' t' (tDel T k)->Q (.pointer (some ⟨t',0,none⟩)) S):CC X 125 [.pointer (some ⟨t,0,none⟩),A5b k] Q s:=by
 have hlt:t<s.next:=let ⟨_,_,h1,_⟩:=h;h1.lt
 refine F21 rfl ?_;have o1:Old s (s.alloc (.cells [.int .i64 k.br,.int .i64 k.vol,.int .i64 k.blk,.int .u64 k.num] false)):=by simp
 have b0:(s.alloc (.cells [.int .i64 k.br,.int .i64 k.vol,.int .i64 k.blk,.int .u64 k.num] false)).heap s.next=some (.cells [.int .i64 k.br,.int .i64 k.vol,.int .i64 k.blk,.int .u64 k.num] false):=St.alloc_self
 try simp -implicitDefEqProofs (disch:=first|exact dsc|fail)[]
 generalize hs1:s.alloc (.cells [.int .i64 k.br,.int .i64 k.vol,.int .i64 k.blk,.int .u64 k.num] false)=s1 at *;have h1:=h.old o1;refine C12 h1 fun r hr=>?_
 try simp -implicitDefEqProofs (disch:=first|exact dsc|fail)[b0]
 have same:tDel T k=T->Q (.pointer (some ⟨t,0,none⟩)) s:=fun e=>hq t s o .refl (by rw[e];exact h)
 have fin:∀(r':Value) S o' (n:Int),Fd s1 S o o' (fun _=>False)->B2m S o' r' (tDel T k)->Q (.pointer (some ⟨S.next,0,none⟩)) (S.alloc (.cells [r',.int .i64 n] false)):=fun r' S o' n f1 hr'=>by
  have f2:Fd S (S.alloc (.cells [r',.int .i64 n] false)) o' (tint o' S.next 0) (fun _=>False):=(Old.alloc (.refl _)).tint
  exact hq S.next _ _ ((o1.fd.trans f1).trans f2) ⟨r',n,⟨by simp,by simp⟩,A0d (Nat.le_refl _),hr'.fd f2 (fun h=>h)⟩
 cases T with
 | none=>
  rw[show r=.pointer none from hr]
  refine E40 ?_
  try simp -implicitDefEqProofs (disch:=first|exact dsc|fail)[]
  exact A0b o1 (by simp[hlt]) (same rfl)
 | some a=>
  obtain⟨n,rfl,hn⟩:=hr;refine D3s hn (hT a rfl) (fun hnone=>?_) (fun u S o' hsome f1 hroot=>?_) (fun u a' n' S o' hsome f1 hroot hN=>?_)
  ·try simp -implicitDefEqProofs (disch:=first|exact dsc|fail)[]
   exact A0b o1 (by simp[hlt]) (same (by simp only[tDel];rw[hnone]))
  ·have hS:=f1.chg.old (fun _ _ h=>h)
   try simp -implicitDefEqProofs (disch:=first|exact dsc|fail)[]
   refine B4d (h1.old hS) fun i=>?_
   try simp -implicitDefEqProofs (disch:=first|exact dsc|fail)[]
   exact A0a (fin _ S o' _ f1 (by simp only[tDel];rw[hsome];simp only;rw[hroot];rfl))
  ·have hS:=f1.chg.old (fun _ _ h=>h)
   try simp -implicitDefEqProofs (disch:=first|exact dsc|fail)[]
   refine B4d (h1.old hS) fun i=>?_
   try simp -implicitDefEqProofs (disch:=first|exact dsc|fail)[]
   exact A0a (fin _ S o' _ f1 (by simp only[tDel];rw[hsome];simp only;rw[hroot];exact⟨n',rfl,hN⟩))
theorem C9c{l:List A0t}{c:Int}(hc:c=if(A07 l k).2 then((A07 l k).1:Int)else((A07 l k).1:Int)-1):(if 0<=c then l[c.toNat]? else none)=B75 l k:=by
 unfold B75;split at hc
 ·rename_i h;rw[if_pos h,if_pos (by omega)]
  congr 1;omega
 ·rename_i h;rw[if_neg h];by_cases h0:(A07 l k).1=0
  ·rw[if_pos h0,if_neg (by omega)]
  ·rw[if_neg h0,if_pos (by omega)]
   congr 1;omega
theorem C8k(h:A6u s o t T)(hT:TOkT p T)(hq:Q (A5y (B5y T k)) s):CC X 252 [.pointer (some ⟨t,0,none⟩),A5b k] Q s:=by
 refine F36 rfl ?_;have o1:Old s ((s.alloc (.cells [.int .i64 k.br,.int .i64 k.vol,.int .i64 k.blk,.int .u64 k.num] false)).alloc (.cells [.int .i64 0,.int .i64 0,.int .i64 0,.int .u64 0] false)):=by simp
 have b0:((s.alloc (.cells [.int .i64 k.br,.int .i64 k.vol,.int .i64 k.blk,.int .u64 k.num] false)).alloc (.cells [.int .i64 0,.int .i64 0,.int .i64 0,.int .u64 0] false)).heap s.next=some (.cells [.int .i64 k.br,.int .i64 k.vol,.int .i64 k.blk,.int .u64 k.num] false):=(St.alloc_old (by simp)).trans St.alloc_self
 have b1:((s.alloc (.cells [.int .i64 k.br,.int .i64 k.vol,.int .i64 k.blk,.int .u64 k.num] false)).alloc (.cells [.int .i64 0,.int .i64 0,.int .i64 0,.int .u64 0] false)).heap (s.next+1)=some (.cells [.int .i64 0,.int .i64 0,.int .i64 0,.int .u64 0] false):=St.alloc_at (by simp)
 try simp -implicitDefEqProofs (disch:=first|exact dsc|fail)[]
 generalize hs1:(s.alloc (.cells [.int .i64 k.br,.int .i64 k.vol,.int .i64 k.blk,.int .u64 k.num] false)).alloc (.cells [.int .i64 0,.int .i64 0,.int .i64 0,.int .u64 0] false)=s1 at *;have h1:=h.old o1;refine B1r h1 hT fun r1 r2 hr1 hr2=>?_
 try simp -implicitDefEqProofs (disch:=first|exact dsc|fail)[b0]
 have hok:=B1l (k:=k) hT;cases T with
 | none=>
  rw[show r1=.pointer none from hr1]
  refine C54 ?_
  try simp -implicitDefEqProofs (disch:=first|exact dsc|fail)[A5y,b1]
  exact A0b (o1.put (by omega)) (A0p (by simp)) (by simpa[B5y,B75,A5m,A07,A5y]using hq)
 | some a=>
  obtain⟨n,rfl,hn⟩:=hr1;refine C2v (c:=if(A07 (A5m (some a) k).1 k).2 then((A07 (A5m (some a) k).1 k).1:Int)else((A07 (A5m (some a) k).1 k).1:Int)-1) hn ⟨hok.1,hok.2.1⟩ (fun Q S hQ=>?_) ?_
  ·have hfl:=B1q (l:=(A5m (some a) k).1) (k:=k);have hl4:=hok.1;simp only[B16];rw[C55,A0n (by kernel_rfl)]
   refine F59 rfl ?_;by_cases hh:(A07 (A5m (some a) k).1 k).2=true
   ·rw[if_pos hh]at hQ
    try simp -implicitDefEqProofs (disch:=first|exact dsc|fail)[hh]
    exact hQ
   ·rw[if_neg hh]at hQ
    try simp -implicitDefEqProofs (disch:=first|exact dsc|fail)[hh]
    exact hQ
  ·simp only[B16];rw[C9c rfl];unfold B5y at hq;cases hfl:B75 (A5m (some a) k).1 k with
   | none=>
    rw[hfl]at hq
    try simp -implicitDefEqProofs (disch:=first|exact dsc|fail)[A5y,b1]
    exact A0b (o1.put (by omega)) (A0p (by simp)) (by simpa[A5y]using hq)
   | some x=>
    rw[hfl]at hq
    try simp -implicitDefEqProofs (disch:=first|exact dsc|fail)[A5y,b1]
    exact A0b (o1.put (by omega)) (A0p (by simp)) (by simpa[A5y]using hq)
theorem D9l{n:Nat}{l:List A0t}(hn:A1w s o 0 n (mk0 l))(hl:l.length<=4)(hp:∀x∈l,p x)(hq:Q (A5y (C82 l k)) s):CC X 186 [.pointer (some ⟨n,0,none⟩),A5b k,fv 185] Q s:=by
 refine C2v (c:=(A07 l k).1) hn ⟨hl,hp⟩ (fun Q S hQ=>?_) ?_
 ·rw[C55,A0n (by kernel_rfl)]
  refine F8g rfl ?_
  try simp -implicitDefEqProofs (disch:=first|exact dsc|fail)[]
  exact hQ
 ·simp only[B16];rw[if_pos (by omega)]
  exact hq
theorem B72{T':Option AN}{l:List A0t}{r1:Value}(hr:B2m s o r1 (T'.map fun _=>⟨0,mk0 l⟩))(h0:T'=none->l=[])(hl:l.length<=4)(hp:∀x∈l,p x)(hq:Q (A5y (C82 l k)) s):CC X 186 [r1,A5b k,fv 185] Q s:=by
 cases T' with
 | none=>
  rw[show r1=.pointer none from hr]
  rw[h0 rfl]at hq;exact C54 hq
 | some a=>
  obtain⟨n,rfl,hn⟩:=hr;exact D9l hn hl hp hq
theorem D2c(h:A6u s o t T)(hT:TOkT p T)(hq:Q (A5y (E3t T k)) s):CC X 161 [.pointer (some ⟨t,0,none⟩),A5b k] Q s:=by
 refine F2g rfl ?_;have o1:Old s ((s.alloc (.cells [.int .i64 k.br,.int .i64 k.vol,.int .i64 k.blk,.int .u64 k.num] false)).alloc (.cells [.int .i64 0,.int .i64 0,.int .i64 0,.int .u64 0] false)):=by simp
 have b0:((s.alloc (.cells [.int .i64 k.br,.int .i64 k.vol,.int .i64 k.blk,.int .u64 k.num] false)).alloc (.cells [.int .i64 0,.int .i64 0,.int .i64 0,.int .u64 0] false)).heap s.next=some (.cells [.int .i64 k.br,.int .i64 k.vol,.int .i64 k.blk,.int .u64 k.num] false):=(St.alloc_old (by simp)).trans St.alloc_self
 have b1:((s.alloc (.cells [.int .i64 k.br,.int .i64 k.vol,.int .i64 k.blk,.int .u64 k.num] false)).alloc (.cells [.int .i64 0,.int .i64 0,.int .i64 0,.int .u64 0] false)).heap (s.next+1)=some (.cells [.int .i64 0,.int .i64 0,.int .i64 0,.int .u64 0] false):=St.alloc_at (by simp)
 try simp -implicitDefEqProofs (disch:=first|exact dsc|fail)[]
 have n1:((s.alloc (.cells [.int .i64 k.br,.int .i64 k.vol,.int .i64 k.blk,.int .u64 k.num] false)).alloc (.cells [.int .i64 0,.int .i64 0,.int .i64 0,.int .u64 0] false)).next=s.next+1+1:=by simp
 generalize hs1:(s.alloc (.cells [.int .i64 k.br,.int .i64 k.vol,.int .i64 k.blk,.int .u64 k.num] false)).alloc (.cells [.int .i64 0,.int .i64 0,.int .i64 0,.int .u64 0] false)=s1 at *;have h1:=h.old o1;refine B1r h1 hT fun r1 r2 hr1 hr2=>?_;have hok:=B1l (k:=k) hT;have hnil:∀k,T=none->(A5m T k).1=[]:=fun k e=>by subst e;rfl
 try simp -implicitDefEqProofs (disch:=first|exact dsc|fail)[b0]
 refine B72 hr1 (hnil k) hok.1 hok.2.1 ?_;unfold E3t at hq;cases hc:C82 (A5m T k).1 k with
 | some x=>
  rw[hc]at hq
  try simp -implicitDefEqProofs (disch:=first|exact dsc|fail)[A5y,b1]
  exact A0b (o1.put (by omega)).alloc (A0p (by simp)) hq
 | none=>
  rw[hc]at hq;simp only at hq;cases hl:(A5m T k).2 with
  | none=>
   rw[hl]at hq hr2;rw[show r2=.pointer none from hr2]
   try simp -implicitDefEqProofs (disch:=first|exact dsc|fail)[A5y,b1,B0a A0g]
   exact A0b (o1.put (by omega)).alloc (A0p (by simp)) hq
  | some a=>
   rw[hl]at hq hr2;simp only at hq;obtain⟨n,rfl,hn⟩:=hr2;have hoka:=hok.2.2 a hl
   try simp -implicitDefEqProofs (disch:=first|exact dsc|fail)[A5y,b1,A0j A0g]
   have o2:Old s1 (s1.alloc (.cells [.int .i64 0,.int .i64 0,.int .i64 0,.int .u64 0] false)):=by simp
   refine B2k (hn.old (by simp)) fun bb=>?_
   have hok2:=B1l (k:=A1x a.1 a.2) hT
   try simp -implicitDefEqProofs (disch:=first|exact dsc|fail)[A5b]
   refine B1r (h1.old (by repeat (first|exact Old.refl _|apply Old.alloc))) hT fun r3 r4 hr3 hr4=>?_
   try simp -implicitDefEqProofs (disch:=first|exact dsc|fail)[]
   refine B72 hr3 (hnil _) hok2.1 hok2.2.1 ?_;cases hc2:C82 (A5m T (A1x a.1 a.2)).1 (A1x a.1 a.2)with
   | some x=>
    rw[hc2]at hq
    try simp -implicitDefEqProofs (disch:=first|exact dsc|fail)[A5y,b1,n1]
    exact A0b ((o1.put (by omega)).alloc.alloc) (A0p (by simp)) hq
   | none=>
    rw[hc2]at hq
    try simp -implicitDefEqProofs (disch:=first|exact dsc|fail)[A5y,b1,n1]
    exact A0b ((o1.put (by omega)).alloc.alloc) (A0p (by simp)) hq
end
end Go.Zz
set_option maxRecDepth 20000
set_option linter.all false
namespace Go.Zz
open Go
variable {X : Y0}
def C2q:Int:=18446744073709551615
def E1n(a b:A0t):Bool:=decide (a.br=b.br)&&(decide (a.vol=b.vol)&&decide (a.blk=b.blk))
def iAt(T:Option AN)(k:A0t):Option Int:=match B5y T k with
 | some x=>if E1n x k then some x.num else none
 | none=>none
def B3z(T:Option AN)(k:A0t):Option Int:=if k.num=C2q then none else match E3t T { k with num:=k.num+1 }with
 | some x=>if E1n x k then some x.num else none
 | none=>none
def iPut(T:Option AN)(k:A0t):Int×Option AN:=if k.num=0 then(1,T)else
 if(match iAt T { k with num:=C2q }with|some n=>decide (k.num<=n)|none=>false)then(15,T)else(0,some (tPut T k))
def C9y(T:Option AN)(k:A0t):Int×Option AN:=if tHas T k then(0,tDel T k)else(4,T)
theorem A7a(a b c a' b' c':Int):binV P .neq 46 (.agg #[.int .i64 a,.int .i64 b,.int .i64 c]) (.agg #[.int .i64 a',.int .i64 b',.int .i64 c'])=some (.bool !((a==a')&&((b==b')&&((c==c')&&true)))):=by kernel_rfl
def A21(s:St)(o:Nat->Nat)(c x:Nat)(T:Option AN):Prop:=∃t,Blk s x [.pointer (some ⟨t,0,none⟩)]/\o x=c/\A6u s o t T/\TOkT spOk T
theorem A21.fd{s S:St}{o o':Nat->Nat}{d:Nat->Prop}{c x:Nat}{T:Option AN}(h:A21 s o c x T)(g:Fd s S o o' d)(hd:¬d c)(hd0:¬d 0):A21 S o' c x T:=by
 obtain⟨t,h1,h2,h3,h4⟩:=h;exact⟨t,h1.fd g (by rw[h2];exact hd),(g.col h1.lt).trans h2,h3.fd g hd0,h4⟩
theorem A21.old{s S:St}{o:Nat->Nat}{c x:Nat}{T:Option AN}(h:A21 s o c x T)(g:Old s S):A21 S o c x T:=h.fd (d:=fun _=>False) g.fd (fun h=>h) (fun h=>h)
section
variable {s : St} {o : Nat → Nat} {c x : Nat} {T : Option AN} {k : A0t} {Q : Post}
theorem D22(c:Nat)(hq:∀x S o',Fd s S o o' (fun _=>False)->A21 S o' c x none->Q (.pointer (some ⟨x,0,none⟩)) S):CC X 48 [] Q s:=by
 refine G89 rfl ?_
 try simp -implicitDefEqProofs (disch:=first|exact dsc|fail)[]
 refine D6c (o:=o) fun t S o' f1 h1=>?_
 try simp -implicitDefEqProofs (disch:=first|exact dsc|fail)[]
 have f2:Fd S (S.alloc (.cells [.pointer (some ⟨t,0,none⟩)] false)) o' (tint o' S.next c) (fun _=>False):=(Old.alloc (.refl _)).tint
 exact A0a (hq S.next _ _ (f1.trans f2) ⟨t,⟨by simp,by simp⟩,A0d (Nat.le_refl _),h1.fd f2 (fun h=>h),fun a e=>by cases e⟩)
theorem B7j{t:Nat}(h:Blk s x [.pointer (some ⟨t,0,none⟩)])(hq:Q (.pointer (some ⟨t,0,none⟩)) s):CC X 69 [.pointer (some ⟨x,0,none⟩)] Q s:=by
 refine G9x rfl ?_
 try simp -implicitDefEqProofs (disch:=first|exact dsc|fail)[A0j A1g,A0j A31,h.eq]
 exact hq
theorem C3x(c':Nat)(h:A21 s o c x T)(hq:∀x' S o',Fd s S o o' (fun _=>False)->A21 S o' c' x' T->Q (.pointer (some ⟨x',0,none⟩)) S):CC X 37 [.pointer (some ⟨x,0,none⟩)] Q s:=by
 obtain⟨t,h1,h2,h3,h4⟩:=h;refine H0g rfl ?_
 try simp -implicitDefEqProofs (disch:=first|exact dsc|fail)[]
 refine B7j h1 ?_
 try simp -implicitDefEqProofs (disch:=first|exact dsc|fail)[]
 have f2:Fd s (s.alloc (.cells [.pointer (some ⟨t,0,none⟩)] false)) o (tint o s.next c') (fun _=>False):=(Old.alloc (.refl _)).tint
 exact A0a (hq s.next _ _ f2 ⟨t,⟨by simp,by simp⟩,A0d (Nat.le_refl _),h3.fd f2 (fun h=>h),h4⟩)
abbrev C69(k:A0t):Value:=.agg #[.int .i64 k.br,.int .i64 k.vol,.int .i64 k.blk]
theorem E3g(h:A21 s o c x T)(hq:Q (.tuple #[.int .u64 ((iAt T k).getD 0),.bool (iAt T k).isSome]) s):CC X 250 [.pointer (some ⟨x,0,none⟩),C69 k,.int .u64 k.num] Q s:=by
 obtain⟨t,h1,h2,h3,h4⟩:=h;have hlt:=h1.lt;refine F7j rfl ?_;have o1:Old s (s.alloc (.cells [.int .i64 k.br,.int .i64 k.vol,.int .i64 k.blk] false)):=by simp
 have b0:(s.alloc (.cells [.int .i64 k.br,.int .i64 k.vol,.int .i64 k.blk] false)).heap s.next=some (.cells [.int .i64 k.br,.int .i64 k.vol,.int .i64 k.blk] false):=St.alloc_self
 try simp -implicitDefEqProofs (disch:=first|exact dsc|fail)[A0j A1g,h1.eq]
 have n1:(s.alloc (.cells [.int .i64 k.br,.int .i64 k.vol,.int .i64 k.blk] false)).next=s.next+1:=by simp
 generalize hs1:s.alloc (.cells [.int .i64 k.br,.int .i64 k.vol,.int .i64 k.blk] false)=s1 at *;refine C8k (h3.old o1) h4 ?_;unfold iAt at hq;cases hf:B5y T k with
 | none=>
  rw[hf]at hq
  try simp -implicitDefEqProofs (disch:=first|exact dsc|fail)[A5y]
  exact A0b o1.alloc (A0p (by simp)) hq
 | some y=>
  rw[hf]at hq;simp only[E1n]at hq;by_cases e1:y.br=k.br
  ·by_cases e2:y.vol=k.vol
   ·by_cases e3:y.blk=k.blk
    ·try simp -implicitDefEqProofs (disch:=first|exact dsc|fail)[A5y,A7a,b0,n1,e1,e2,e3]
     exact A0b o1.alloc (A0p (by simp)) (by simpa[e1,e2,e3]using hq)
    ·try simp -implicitDefEqProofs (disch:=first|exact dsc|fail)[A5y,A7a,b0,n1,e1,e2,e3]
     exact A0b o1.alloc (A0p (by simp)) (by simpa[e1,e2,e3]using hq)
   ·try simp -implicitDefEqProofs (disch:=first|exact dsc|fail)[A5y,A7a,b0,n1,e1,e2]
    exact A0b o1.alloc (A0p (by simp)) (by simpa[e1,e2]using hq)
  ·try simp -implicitDefEqProofs (disch:=first|exact dsc|fail)[A5y,A7a,b0,n1,e1]
   exact A0b o1.alloc (A0p (by simp)) (by simpa[e1]using hq)
theorem C86(h:A21 s o c x T)(hk0:0<=k.num)(hk:k.num<=C2q)(hq:Q (.tuple #[.int .u64 ((B3z T k).getD 0),.bool (B3z T k).isSome]) s):CC X 135 [.pointer (some ⟨x,0,none⟩),C69 k,.int .u64 k.num] Q s:=by
 obtain⟨t,h1,h2,h3,h4⟩:=h;have hlt:=h1.lt;refine F73 rfl ?_;have o1:Old s (s.alloc (.cells [.int .i64 k.br,.int .i64 k.vol,.int .i64 k.blk] false)):=by simp
 have b0:(s.alloc (.cells [.int .i64 k.br,.int .i64 k.vol,.int .i64 k.blk] false)).heap s.next=some (.cells [.int .i64 k.br,.int .i64 k.vol,.int .i64 k.blk] false):=St.alloc_self
 unfold B3z at hq;by_cases h0:k.num=C2q
 ·rw[if_pos h0]at hq;have h0':k.num=18446744073709551615:=h0
  try simp -implicitDefEqProofs (disch:=first|exact dsc|fail)[A0j A1g,h0']
  exact A0b o1 (A0p (by simp)) hq
 ·rw[if_neg h0]at hq;have h0':¬k.num=18446744073709551615:=h0;have hw:IntKind.u64.wrap (k.num+1)=k.num+1:=A65 (by omega) (by unfold C2q at *;omega)
  try simp -implicitDefEqProofs (disch:=first|exact dsc|fail)[A0j A1g,h1.eq,h0',hw]
  have n1:(s.alloc (.cells [.int .i64 k.br,.int .i64 k.vol,.int .i64 k.blk] false)).next=s.next+1:=by simp
  generalize hs1:s.alloc (.cells [.int .i64 k.br,.int .i64 k.vol,.int .i64 k.blk] false)=s1 at *;refine D2c (k:={ k with num:=k.num+1 }) (h3.old o1) h4 ?_;cases hf:E3t T { k with num:=k.num+1 }with
  | none=>
   rw[hf]at hq
   try simp -implicitDefEqProofs (disch:=first|exact dsc|fail)[A5y]
   exact A0b o1.alloc (A0p (by simp)) hq
  | some y=>
   rw[hf]at hq;simp only[E1n]at hq;by_cases e1:y.br=k.br
   ·by_cases e2:y.vol=k.vol
    ·by_cases e3:y.blk=k.blk
     ·try simp -implicitDefEqProofs (disch:=first|exact dsc|fail)[A5y,A7a,b0,n1,e1,e2,e3]
      exact A0b o1.alloc (A0p (by simp)) (by simpa[e1,e2,e3]using hq)
     ·try simp -implicitDefEqProofs (disch:=first|exact dsc|fail)[A5y,A7a,b0,n1,e1,e2,e3]
      exact A0b o1.alloc (A0p (by simp)) (by simpa[e1,e2,e3]using hq)
    ·try simp -implicitDefEqProofs (disch:=first|exact dsc|fail)[A5y,A7a,b0,n1,e1,e2]
     exact A0b o1.alloc (A0p (by simp)) (by simpa[e1,e2]using hq)
   ·try simp -implicitDefEqProofs (disch:=first|exact dsc|fail)[A5y,A7a,b0,n1,e1]
    exact A0b o1.alloc (A0p (by simp)) (by simpa[e1]using hq)
theorem A21.set{S:St}{o':Nat->Nat}{t':Nat}{T':Option AN}(h:A21 s o c x T)(f:Fd s S o o' (fun _=>False))(hc:c≠0)(h1:A6u S o' t' T')(h2:TOkT spOk T') :
  A21 (S.put x (.cells [.pointer (some ⟨t',0,none⟩)] false)) o' c x T'/\Fd s (S.put x (.cells [.pointer (some ⟨t',0,none⟩)] false)) o o' (·=c):=by
 obtain⟨t,g1,g2,g3,g4⟩:=h;have hx:=g1.lt;have hle:=f.chg.le;have f2:Fd S (S.put x (.cells [.pointer (some ⟨t',0,none⟩)] false)) o' o' (·=c):=⟨⟨by simp,fun {b} hb hn=>St.put_other (fun e=>hn (by rw[e,f.col hx];exact g2))⟩,fun _=>rfl⟩
 exact⟨⟨t',⟨by simp;omega,by simp⟩,(f.col hx).trans g2,h1.fd f2 (fun e=>hc e.symm),h2⟩,(f.mono (fun _ h=>h.elim)).trans f2⟩
theorem D2b(h:A21 s o c x T)(hc:c≠0)(hk:spOk k)(hq:∀S o',A21 S o' c x (iPut T k).2->Fd s S o o' (·=c)->Q (.int .i64 (iPut T k).1) S):CC X 245 [.pointer (some ⟨x,0,none⟩),C69 k,.int .u64 k.num] Q s:=by
 have hI:=h;obtain⟨t,h1,h2,h3,h4⟩:=h;have hlt:=h1.lt;refine E9m rfl ?_;have o1:Old s (s.alloc (.cells [.int .i64 k.br,.int .i64 k.vol,.int .i64 k.blk] false)):=by simp
 have b0:(s.alloc (.cells [.int .i64 k.br,.int .i64 k.vol,.int .i64 k.blk] false)).heap s.next=some (.cells [.int .i64 k.br,.int .i64 k.vol,.int .i64 k.blk] false):=St.alloc_self
 unfold iPut at hq;have same:∀e,(∀S o',A21 S o' c x T->Fd s S o o' (·=c)->Q (.int .i64 e) S)->Q (.int .i64 e) s:=fun e hq=>hq s o hI .refl;by_cases h0:k.num=0
 ·rw[if_pos h0]at hq
  try simp -implicitDefEqProofs (disch:=first|exact dsc|fail)[A0j A1g,h0]
  exact A0b o1 (.int _ _) (same 1 hq)
 ·rw[if_neg h0]at hq
  try simp -implicitDefEqProofs (disch:=first|exact dsc|fail)[A0j A1g,h0]
  generalize hs1:s.alloc (.cells [.int .i64 k.br,.int .i64 k.vol,.int .i64 k.blk] false)=s1 at *;refine E3g (k:={ k with num:=C2q }) (hI.old o1) ?_;have put:Q (.int .i64 0) s->True:=fun _=>trivial;have fin:(∀S o',A21 S o' c x (some (tPut T k))->Fd s S o o' (·=c)->Q (.int .i64 0) S)->B4f (CC X) Q s (.pointer (some ⟨x,0,none⟩)) (.int .u64 k.num) (.pointer (some ⟨s.next,0,none⟩)) s1:=fun hq=>by
   have h1':=h1.old o1
   try simp -implicitDefEqProofs (disch:=first|exact dsc|fail)[h1'.eq,b0]
   refine D8z (h3.old o1) h4 fun t' S o' f1 hT'=>?_;have fS:=o1.fd.trans f1;have hx:x<S.next:=by have:=fS.chg.le;omega
   have e1:S.heap x=some (.cells [.pointer (some ⟨t,0,none⟩)] false):=(fS.chg.eq hlt (fun h=>h)).trans h1.eq
   try simp -implicitDefEqProofs (disch:=first|exact dsc|fail)[e1]
   obtain⟨a1,a2⟩:=hI.set fS hc hT' (fun a e=>by cases e;exact D5p h4 hk)
   exact A0a (hq _ o' a1 a2)
  cases ha:iAt T { k with num:=C2q }with
  | none=>
   rw[ha]at hq
   try simp -implicitDefEqProofs (disch:=first|exact dsc|fail)[-B4f,-C0y]
   exact fin hq
  | some n=>
   rw[ha]at hq;simp only at hq;by_cases hn:k.num<=n
   ·rw[if_pos (by simpa using hn)]at hq
    try simp -implicitDefEqProofs (disch:=first|exact dsc|fail)[-B4f,-C0y,hn]
    exact A0b o1 (.int _ _) (same 15 hq)
   ·rw[if_neg (by simpa using hn)]at hq
    try simp -implicitDefEqProofs (disch:=first|exact dsc|fail)[-B4f,-C0y,hn]
    exact fin hq
theorem C77(h:A21 s o c x T)(hc:c≠0)(hq:∀S o',A21 S o' c x (C9y T k).2->Fd s S o o' (·=c)->Q (.int .i64 (C9y T k).1) S):CC X 92 [.pointer (some ⟨x,0,none⟩),C69 k,.int .u64 k.num] Q s:=by
 have hI:=h;obtain⟨t,h1,h2,h3,h4⟩:=h;have hlt:=h1.lt;refine H01 rfl ?_;unfold C9y at hq
 try simp -implicitDefEqProofs (disch:=first|exact dsc|fail)[A0j A1g,h1.eq]
 have o1:Old s ((s.alloc (.cells [.int .i64 k.br,.int .i64 k.vol,.int .i64 k.blk] false)).alloc (.cells [.int .i64 k.br,.int .i64 k.vol,.int .i64 k.blk,.int .u64 k.num] false)):=by simp
 have b1:((s.alloc (.cells [.int .i64 k.br,.int .i64 k.vol,.int .i64 k.blk] false)).alloc (.cells [.int .i64 k.br,.int .i64 k.vol,.int .i64 k.blk,.int .u64 k.num] false)).heap (s.next+1)=some (.cells [.int .i64 k.br,.int .i64 k.vol,.int .i64 k.blk,.int .u64 k.num] false):=St.alloc_at (by simp)
 generalize hs1:(s.alloc (.cells [.int .i64 k.br,.int .i64 k.vol,.int .i64 k.blk] false)).alloc (.cells [.int .i64 k.br,.int .i64 k.vol,.int .i64 k.blk,.int .u64 k.num] false)=s1 at *;refine C6s (h3.old o1) h4 ?_;by_cases hh:tHas T k=true
 ·rw[if_pos hh]at hq;have h1':=h1.old o1
  try simp -implicitDefEqProofs (disch:=first|exact dsc|fail)[hh,h1'.eq,b1]
  refine D27 (h3.old o1) h4 fun t' S o' f1 hT'=>?_;have fS:=o1.fd.trans f1;have hx:x<S.next:=by have:=fS.chg.le;omega
  have e1:S.heap x=some (.cells [.pointer (some ⟨t,0,none⟩)] false):=(fS.chg.eq hlt (fun h=>h)).trans h1.eq
  try simp -implicitDefEqProofs (disch:=first|exact dsc|fail)[e1]
  obtain⟨a1,a2⟩:=hI.set fS hc hT' (D43 h4);exact A0a (hq _ o' a1 a2)
 ·rw[if_neg hh]at hq
  try simp -implicitDefEqProofs (disch:=first|exact dsc|fail)[hh]
  exact A0b o1 (.int _ _) (hq s o hI .refl)
end
end Go.Zz
