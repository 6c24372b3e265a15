import Derived.Test.YtnghaapdoanabaaGreatDoorWL
set_option linter.all false
set_option maxRecDepth 20000
set_option linter.all false
namespace Go.Zz
open Go
variable {X : Y0}
def leafN:(h:Nat)->NT h->SpotM->Option AN->List SpotM×Option AN
 | 0,t,_,nx=>(spots t,nx)
 | h+1,t,k,nx=>match(kids t)[(fIn (keysN (h+1) t) k).1]? with
  | some u=>leafN h u k (match(kids t)[(fIn (keysN (h+1) t) k).1+1]? with
   | some w=>some ⟨h,w⟩
   | none=>nx)
  | none=>([],none)
def tLeaf(T:Option AN)(k:SpotM):List SpotM×Option AN:=match T with
 | none=>([],none)
 | some a=>leafN a.1 a.2 k none
def tHas(T:Option AN)(k:SpotM):Bool:=(fLeaf (tLeaf T k).1 k).2
def rootL(h:Nat)(ts:List (NT h)):AN:=match ts with
 | [u]=>⟨h,u⟩
 | l=>⟨h+1,mkN l⟩
def tPut(T:Option AN)(k:SpotM):AN:=match T with
 | none=>⟨0,mk0 [k]⟩
 | some a=>rootL a.1 (putN a.1 a.2 k)
def tDel(T:Option AN)(k:SpotM):Option AN:=match T with
 | none=>none
 | some a=>match delN a.1 a.2 k with
  | none=>T
  | some u=>rootOf (topN a.1 u)
def floorL(l:List SpotM)(k:SpotM):Option SpotM:=if(fLeaf l k).2 then l[(fLeaf l k).1]? else if(fLeaf l k).1=0 then none else l[(fLeaf l k).1-1]?
def ceilL(l:List SpotM)(k:SpotM):Option SpotM:=l[(fLeaf l k).1]?
def tFloor(T:Option AN)(k:SpotM):Option SpotM:=floorL (tLeaf T k).1 k
def tCeil(T:Option AN)(k:SpotM):Option SpotM:=match ceilL (tLeaf T k).1 k with
 | some x=>some x
 | none=>match(tLeaf T k).2 with
  | none=>none
  | some a=>ceilL (tLeaf T (leastN a.1 a.2)).1 (leastN a.1 a.2)
def TOkT(p:SpotM->Prop)(T:Option AN):Prop:=∀a,T=some a->OkN p a.1 a.2
section
variable {p : SpotM → Prop}
theorem leafN_ok:∀{h:Nat} {t:NT h} {k:SpotM} {nx:Option AN},OkN p h t->(∀a,nx=some a->OkN p a.1 a.2)->(leafN h t k nx).1.length<=4/\(∀x∈(leafN h t k nx).1,p x)/\(∀a,(leafN h t k nx).2=some a->OkN p a.1 a.2)
 | 0,t,k,nx,ho,hx=>⟨ho.1,ho.2,hx⟩
 | h+1,t,k,nx,ho,hx=>by
  simp only[leafN];cases hu:(kids t)[(fIn (keysN (h+1) t) k).1]? with
  | none=>exact⟨by simp,by simp,fun a e=>by cases e⟩
  | some u=>
   obtain⟨hi,he⟩:=List.getElem?_eq_some_iff.1 hu;refine leafN_ok (ho.2.2 u (by rw[<-he];exact List.getElem_mem hi)) fun a ha=>?_
   cases hw:(kids t)[(fIn (keysN (h+1) t) k).1+1]? with
   | none=>rw[hw]at ha;exact hx a ha
   | some w=>
    rw[hw]at ha;cases ha;obtain⟨hi2,he2⟩:=List.getElem?_eq_some_iff.1 hw;exact ho.2.2 w (by rw[<-he2];exact List.getElem_mem hi2)
theorem tLeaf_ok{T:Option AN}{k:SpotM}(hT:TOkT p T):(tLeaf T k).1.length<=4/\(∀x∈(tLeaf T k).1,p x)/\(∀a,(tLeaf T k).2=some a->OkN p a.1 a.2):=by
 cases T with
 | none=>exact⟨by simp[tLeaf],by simp[tLeaf],fun a e=>by simp[tLeaf]at e⟩
 | some a=>exact leafN_ok (hT a rfl) (fun a e=>by cases e)
theorem tFloor_ok{T:Option AN}{k x:SpotM}(hT:TOkT p T)(hx:tFloor T k=some x):p x:=by
 obtain⟨_,h,_⟩:=tLeaf_ok (k:=k) hT;unfold tFloor floorL at hx;split at hx
 ·exact h x (List.mem_of_getElem? hx)
 ·split at hx
  ·cases hx
  ·exact h x (List.mem_of_getElem? hx)
theorem tPut_ok{T:Option AN}{k:SpotM}(hT:TOkT p T)(hk:p k):OkN p (tPut T k).1 (tPut T k).2:=by
 cases T with
 | none=>
  show OkN p 0 (mk0 [k]);exact⟨by simp,by simpa using hk⟩
 | some a=>
  have h1:=putN_ok (hT a rfl) hk;have h2:=putN_two (h:=a.1) (t:=a.2) (k:=k);show OkN p (rootL a.1 (putN a.1 a.2 k)).1 (rootL a.1 (putN a.1 a.2 k)).2
  match hl:putN a.1 a.2 k with
  | [u]=>exact h1 u (by rw[hl];simp)
  | []=>rw[hl]at h2;simp at h2
  | u::w::r=>
   show OkN p (a.1+1) (mkN (u::w::r));exact⟨by simp,by rw[hl]at h2;simp only[List.length_cons,kids_mkN]at h2 ⊢;omega,fun x hx=>h1 x (by rw[hl];exact hx)⟩
theorem tDel_ok{T:Option AN}{k:SpotM}(hT:TOkT p T):TOkT p (tDel T k):=by
 intro b hb;cases T with
 | none=>cases hb
 | some a=>
  simp only[tDel]at hb;cases hd:delN a.1 a.2 k with
  | none=>rw[hd]at hb;exact hT b hb
  | some u=>
   rw[hd]at hb;simp only[rootOf]at hb;split at hb
   ·cases hb
   ·cases hb;exact topN_ok (delN_ok (hT a rfl) hd)
end
def RootR(s:St)(o:Nat->Nat)(r:Value):Option AN->Prop
 | none=>r=.pointer none
 | some a=>∃n,r=.pointer (some ⟨n,0,none⟩)/\NodeR s o a.1 n a.2
def TreeR(s:St)(o:Nat->Nat)(t:Nat)(T:Option AN):Prop:=∃r i,Blk s t [r,.int .i64 i]/\o t=0/\RootR s o r T
theorem RootR.fd{s S:St}{o o':Nat->Nat}{d:Nat->Prop}{r:Value}{T:Option AN}(h:RootR s o r T)(g:Fd s S o o' d)(hd:¬d 0):RootR S o' r T:=by
 cases T with
 | none=>exact h
 | some a=>obtain⟨n,h1,h2⟩:=h;exact⟨n,h1,h2.fd g hd⟩
theorem TreeR.fd{s S:St}{o o':Nat->Nat}{d:Nat->Prop}{t:Nat}{T:Option AN}(h:TreeR s o t T)(g:Fd s S o o' d)(hd:¬d 0):TreeR S o' t T:=by
 obtain⟨r,i,h1,h2,h3⟩:=h;exact⟨r,i,h1.fd g (by rw[h2];exact hd),(g.col h1.lt).trans h2,h3.fd g hd⟩
theorem TreeR.old{s S:St}{o:Nat->Nat}{t:Nat}{T:Option AN}(h:TreeR s o t T)(g:Old s S):TreeR S o t T:=h.fd (d:=fun _=>False) g.fd (fun h=>h)
theorem RootR.val{s:St}{o:Nat->Nat}{r:Value}{T:Option AN}(h:RootR s o r T):data r=true/\r.cells=#[r]/\Bel s.next r:=by
 cases T with
 | none=>rw[show r=.pointer none from h];exact⟨rfl,rfl,by simp⟩
 | some a=>obtain⟨n,h1,h2⟩:=h;subst h1;exact⟨rfl,rfl,by have:=h2.lt;simpa using this⟩
section
variable {s : St} {o : Nat → Nat} {p : SpotM → Prop} {t : Nat} {T : Option AN} {k : SpotM} {Q : Post} {r : Value}
theorem Root_blk{i:Int}(h:Blk s t [r,.int .i64 i])(hq:Q r s):CC X 153 [.pointer (some ⟨t,0,none⟩)] Q s:=by
 refine f153xin rfl ?_
 try simp -implicitDefEqProofs (disch:=first|exact dsc|fail)[nil_ptr y_P_underlying_140,h.eq]
 exact hq
theorem Root_spec(h:TreeR s o t T)(hq:∀r,RootR s o r T->Q r s):CC X 153 [.pointer (some ⟨t,0,none⟩)] Q s:=by
 obtain⟨r,i,h1,h2,h3⟩:=h;refine f153xin rfl ?_
 try simp -implicitDefEqProofs (disch:=first|exact dsc|fail)[nil_ptr y_P_underlying_140,h1.eq]
 exact hq r h3
theorem TLen_spec(h:TreeR s o t T)(hq:∀i,Q (.int .i64 i) s):CC X 154 [.pointer (some ⟨t,0,none⟩)] Q s:=by
 obtain⟨r,i,h1,h2,h3⟩:=h;refine f154xin rfl ?_
 try simp -implicitDefEqProofs (disch:=first|exact dsc|fail)[nil_ptr y_P_underlying_140,h1.eq]
 exact hq i
theorem TNew_spec(hq:∀t S o',Fd s S o o' (fun _=>False)->TreeR S o' t none->Q (.pointer (some ⟨t,0,none⟩)) S):CC X 89 [] Q s:=by
 refine f89xin rfl ?_
 try simp -implicitDefEqProofs (disch:=first|exact dsc|fail)[]
 exact kEnd_keep (hq s.next _ (tint o s.next 0) (Old.alloc (.refl _)).tint ⟨.pointer none,0,⟨by simp,by simp⟩,tint_new (Nat.le_refl _),rfl⟩)
theorem leaf_spec(h:TreeR s o t T)(hT:TOkT p T)(hq:∀r1 r2,RootR s o r1 (T.map fun _=>⟨0,mk0 (tLeaf T k).1⟩)->RootR s o r2 (tLeaf T k).2->Q (.tuple #[r1,r2]) s):CC X 150 [.pointer (some ⟨t,0,none⟩),spotV k] Q s:=by
 refine f150xin rfl ?_;have o1:Old s (s.alloc (.cells [.int .i64 k.br,.int .i64 k.vol,.int .i64 k.blk,.int .u64 k.num] false)):=by simp
 have b0:(s.alloc (.cells [.int .i64 k.br,.int .i64 k.vol,.int .i64 k.blk,.int .u64 k.num] false)).heap s.next=some (.cells [.int .i64 k.br,.int .i64 k.vol,.int .i64 k.blk,.int .u64 k.num] false):=St.alloc_self
 try simp -implicitDefEqProofs (disch:=first|exact dsc|fail)[]
 generalize hs1:s.alloc (.cells [.int .i64 k.br,.int .i64 k.vol,.int .i64 k.blk,.int .u64 k.num] false)=s1 at *;obtain⟨r,ii,hb,hc,hr⟩:=h;refine Root_blk (hb.old o1) ?_;cases T with
 | none=>
  have hr:r=.pointer none:=hr;subst hr
  try simp -implicitDefEqProofs (disch:=first|exact dsc|fail)[nil_nil y_P_underlying_199]
  exact kEnd_back o1 (bel_tuple (by simp)) (hq _ _ rfl rfl)
 | some a=>
  obtain⟨n,rfl,hn⟩:=hr
  try simp -implicitDefEqProofs (disch:=first|exact dsc|fail)[nil_ptr y_P_underlying_199]
  refine f150xloop0 fun I hI=>?_;have key:∀(h' n:Nat) (w:NT h') (nx:Option AN) (r2:Value),OkN p h' w->NodeR s o h' n w->RootR s o r2 nx->leafN h' w k nx=tLeaf (some a) k->I (.pointer (some ⟨s.next,0,none⟩)) (.pointer (some ⟨n,0,none⟩)) r2 s1:=by
   intro h';induction h' with
   | zero=>
    intro n w nx r2 how hw hr2 he;refine hI _ _ _ _ ?_
    try simp -implicitDefEqProofs (disch:=first|exact dsc|fail)[]
    refine Leaf_spec (hw.old o1) how ?_
    try simp -implicitDefEqProofs (disch:=first|exact dsc|fail)[]
    have hlt:=hw.lt;have hb:=hr2.val.2.2;simp only[leafN]at he;refine kEnd_back o1 (bel_tuple (by simp[hlt,hb])) (hq _ _ ⟨n,rfl,?_⟩ ?_)
    ·rw[<-he];exact hw
    ·rw[<-he];exact hr2
   | succ h' ih=>
    intro n w nx r2 how hw hr2 he;refine hI _ _ _ _ ?_
    try simp -implicitDefEqProofs (disch:=first|exact dsc|fail)[]
    have hw1:=hw.old o1;refine Leaf_spec hw1 how ?_
    try simp -implicitDefEqProofs (disch:=first|exact dsc|fail)[b0]
    refine Find_spec hw1 how ?_;obtain⟨g1,g2,g3⟩:=id how;obtain⟨kv,dv,ps,h10,h20,h30,h40,h5⟩:=hw.kids;have h1:=h10.old o1;have h4:=h40.old o1;have hps:=h5.1;have hi:=fIn_lt (l:=keysN (h'+1) w) (k:=k) (by rw[keysN_len];exact g1)
    rw[keysN_len]at hi;have hi:(fIn (keysN (h'+1) w) k).1<(kids w).length:=hi;have hl4:=fun S=>h4.1.len (P:=P) (s':=S) y_P_underlying_231;have hff:findN (h'+1) w k=fIn (keysN (h'+1) w) k:=if_neg (by omega)
    rw[hff];simp only[leafN]at he;rw[List.getElem?_eq_getElem hi]at he;simp only at he;generalize (fIn (keysN (h'+1) w) k).1=i at *;have hip:i<ps.length:=by omega
    have x1:=h5.2 i hip hi;by_cases hnx:i+1<ps.length
    ·have hnxi:(i:Int)+1<ps.length:=by omega
     have hnx2:i+1<(kids w).length:=by omega
     have ei:((i:Int)+1).toNat=i+1:=by omega
     have hx2:=h4.1.one (n:=1) hnx;rw[List.getElem?_eq_getElem hnx2]at he
     try simp -implicitDefEqProofs (disch:=first|exact dsc|fail)[h1.eq,hl4,hnxi,h4.1.idx,h4.1.one,hip,ei,hx2]
     exact ih ps[i] (kids w)[i] (some ⟨h',(kids w)[i+1]⟩) _ (g3 _ (List.getElem_mem hi)) x1 ⟨ps[i+1],rfl,h5.2 (i+1) hnx hnx2⟩ he
    ·have hnxi:¬(i:Int)+1<ps.length:=by omega
     rw[List.getElem?_eq_none (by omega:(kids w).length<=i+1)]at he
     try simp -implicitDefEqProofs (disch:=first|exact dsc|fail)[h1.eq,hl4,hnxi,h4.1.idx,h4.1.one,hip]
     exact ih ps[i] (kids w)[i] nx _ (g3 _ (List.getElem_mem hi)) x1 hr2 he
  exact key a.1 n a.2 none _ (hT a rfl) hn rfl rfl
def oSpot(x:Option SpotM):Value:=.tuple #[spotV (x.getD sp0),.int .u64 ((x.map (·.num)).getD 0),.bool x.isSome]
theorem near_nil{f:Value}(hq:Q (oSpot none) s):CC X 186 [.pointer none,spotV k,f] Q s:=by
 refine f186xin rfl ?_
 try simp -implicitDefEqProofs (disch:=first|exact dsc|fail)[nil_nil y_P_underlying_199]
 exact kEnd_back (by repeat (first|exact Old.refl _|apply Old.alloc)) (bel_tuple (by simp)) hq
theorem near_spec{n:Nat}{t:NT 0}{f:Value}{c:Int}(hn:NodeR s o 0 n t)(ho:OkN p 0 t)(hc:∀(Q:Post) S,Q (.int .i64 c) S->callF P (CC X) f [.int .i64 (fLeaf (spots t) k).1,.bool (fLeaf (spots t) k).2] Q S)
  (hq:Q (oSpot (if 0<=c then(spots t)[c.toNat]? else none)) s):CC X 186 [.pointer (some ⟨n,0,none⟩),spotV k,f] Q s:=by
 have hlt:=hn.lt;have h4l:=ho.1;obtain⟨kv,vv,h1,h2,h3,h4⟩:=id hn;have hl3:=fun S=>h3.1.len (P:=P) (s':=S) y_P_underlying_230;refine f186xin rfl ?_;have o1:Old s (s.alloc (.cells [.int .i64 k.br,.int .i64 k.vol,.int .i64 k.blk,.int .u64 k.num] false)):=by simp
 have b0:(s.alloc (.cells [.int .i64 k.br,.int .i64 k.vol,.int .i64 k.blk,.int .u64 k.num] false)).heap s.next=some (.cells [.int .i64 k.br,.int .i64 k.vol,.int .i64 k.blk,.int .u64 k.num] false):=St.alloc_self
 try simp -implicitDefEqProofs (disch:=first|exact dsc|fail)[nil_ptr y_P_underlying_199]
 generalize hs1:s.alloc (.cells [.int .i64 k.br,.int .i64 k.vol,.int .i64 k.blk,.int .u64 k.num] false)=s1 at *;have n1:s1.next=s.next+1:=by rw[<-hs1];simp
 have o2:Old s1 (s1.alloc (.cells [.int .i64 0,.int .i64 0,.int .i64 0,.int .u64 0] false)):=by simp
 have b1:(s1.alloc (.cells [.int .i64 0,.int .i64 0,.int .i64 0,.int .u64 0] false)).heap s1.next=some (.cells [.int .i64 0,.int .i64 0,.int .i64 0,.int .u64 0] false):=St.alloc_self
 have b0':=(o2.eq (b:=s.next) (by omega)).trans b0
 have n2:(s1.alloc (.cells [.int .i64 0,.int .i64 0,.int .i64 0,.int .u64 0] false)).next=s.next+1+1:=by simp[n1]
 generalize hs2:s1.alloc (.cells [.int .i64 0,.int .i64 0,.int .i64 0,.int .u64 0] false)=s2 at *;have oA:=o1.trans o2;refine Find_spec (hn.old oA) ho ?_;have hff:findN 0 t k=fLeaf (spots t) k:=if_pos rfl;rw[hff]
 try simp -implicitDefEqProofs (disch:=first|exact dsc|fail)[]
 refine hc _ _ ?_;have h1':=h1.old oA;have h3':=h3.old oA;have h4':=h4.old oA;rw[n1]at b1;by_cases hc0:c<0
 ·rw[if_neg (by omega)]at hq
  try simp -implicitDefEqProofs (disch:=first|exact dsc|fail)[hc0,n1,b1]
  exact kEnd_back (oA.put (by omega)) (bel_tuple (by simp)) hq
 ·rw[if_pos (by omega)]at hq
  by_cases hc1:((spots t).length:Int)<=c
  ·rw[List.getElem?_eq_none (by omega)]at hq
   try simp -implicitDefEqProofs (disch:=first|exact dsc|fail)[hc0,n1,b1,h1'.eq,hl3,hc1]
   exact kEnd_back (oA.put (by omega)) (bel_tuple (by simp)) hq
  ·have hi:c.toNat<(spots t).length:=by omega
   have hci:c=(c.toNat:Int):=by omega
   generalize c.toNat=i at *;subst hci;rw[List.getElem?_eq_getElem hi]at hq;have hi2:i<((spots t).map (·.num)).length:=by simpa using hi
   have hg:=h4'.1.one (n:=1) hi2;simp only[intE_cells,List.getElem_map]at hg;have hgg:loadV (some (false,1)) (elemP vv i) s2=some (.int .u64 (spots t)[i].num):=hg;have h4p:(intE .u64).In (s2.put (s.next+1) (.cells (spotE.cells (spots t)[i]) false)) vv ((spots t).map (·.num)):=((h4.old ((oA.put (b:=s.next+1) (x:=.cells (spotE.cells (spots t)[i]) false) (by omega)))).1)
   have hg2:=h4p.one (n:=1) hi2;simp only[intE_cells,List.getElem_map,spotE_cells]at hg2;have hgg2:loadV (some (false,1)) (elemP vv i) (s2.put (s.next+1) (.cells [.int .i64 (spots t)[i].br,.int .i64 (spots t)[i].vol,.int .i64 (spots t)[i].blk,.int .u64 (spots t)[i].num] false))=some (.int .u64 (spots t)[i].num):=hg2
   try simp -implicitDefEqProofs (disch:=first|exact dsc|fail)[hc0,n1,b1,h1'.eq,hl3,hc1,h3'.1.idx,h3'.1.agg,h4'.1.idx,hgg,hi]
   exact⟨hgg2,kEnd_back (oA.put (by omega)) (bel_tuple (by simp)) hq⟩
theorem Find_nil(hq:Q (.tuple #[.int .i64 0,.bool false]) s):CC X 151 [.pointer none,spotV k] Q s:=by
 refine f151xin rfl ?_
 try simp -implicitDefEqProofs (disch:=first|exact dsc|fail)[nil_nil y_P_underlying_199]
 exact kEnd_back (by repeat (first|exact Old.refl _|apply Old.alloc)) (bel_tuple (by simp)) hq
theorem Get_spec(h:TreeR s o t T)(hT:TOkT p T)(hq:Q (.tuple #[.int .u64 (if tHas T k then k.num else 0),.bool (tHas T k)]) s):CC X 124 [.pointer (some ⟨t,0,none⟩),spotV k] Q s:=by
 refine f124xin rfl ?_;have o1:Old s (s.alloc (.cells [.int .i64 k.br,.int .i64 k.vol,.int .i64 k.blk,.int .u64 k.num] false)):=by simp
 have b0:(s.alloc (.cells [.int .i64 k.br,.int .i64 k.vol,.int .i64 k.blk,.int .u64 k.num] false)).heap s.next=some (.cells [.int .i64 k.br,.int .i64 k.vol,.int .i64 k.blk,.int .u64 k.num] false):=St.alloc_self
 try simp -implicitDefEqProofs (disch:=first|exact dsc|fail)[]
 generalize hs1:s.alloc (.cells [.int .i64 k.br,.int .i64 k.vol,.int .i64 k.blk,.int .u64 k.num] false)=s1 at *;refine leaf_spec (h.old o1) hT fun r1 r2 h1 h2=>?_
 try simp -implicitDefEqProofs (disch:=first|exact dsc|fail)[b0]
 unfold tHas at hq;have hok:=tLeaf_ok (k:=k) hT;cases T with
 | none=>
  have h1:r1=.pointer none:=h1;subst h1;refine Find_nil ?_
  try simp -implicitDefEqProofs (disch:=first|exact dsc|fail)[]
  exact kEnd_back o1 (bel_tuple (by simp)) (by simpa[tLeaf,fLeaf]using hq)
 | some a=>
  obtain⟨n,rfl,hn⟩:=h1;refine Find_spec hn ⟨hok.1,hok.2.1⟩ ?_;have hff:findN 0 (mk0 (tLeaf (some a) k).1) k=fLeaf (tLeaf (some a) k).1 k:=if_pos rfl;rw[hff];by_cases hh:(fLeaf (tLeaf (some a) k).1 k).2=true
  ·obtain⟨hi,he⟩:=fLeaf_had hh;obtain⟨kv,vv,g1,g2,g3,g4⟩:=hn;simp only[spots_mk0]at g3 g4;generalize (tLeaf (some a) k).1=l at *;generalize (fLeaf l k).1=i at *;have hi2:i<(l.map (·.num)).length:=by simpa using hi
   have hg:=g4.1.one (n:=1) hi2;simp only[intE_cells,List.getElem_map,he]at hg;have hgg:loadV (some (false,1)) (elemP vv i) s1=some (.int .u64 k.num):=hg
   try simp -implicitDefEqProofs (disch:=first|exact dsc|fail)[hh,g1.eq,g4.1.idx,hi,hgg]
   exact kEnd_back o1 (bel_tuple (by simp)) (by simpa[hh]using hq)
  ·try simp -implicitDefEqProofs (disch:=first|exact dsc|fail)[hh]
   exact kEnd_back o1 (bel_tuple (by simp)) (by simpa[hh]using hq)
theorem putR_spec(hr:RootR s o r T)(hT:TOkT p T)(hq:∀(h:Nat) (ts:List (NT h)) v qs S o',Fd s S o o' (fun _=>False)->Im ptrE S o' v qs->NodesR S o' h qs ts->(ts.length=1\/ts.length=2)->rootL h ts=tPut T k->Q v S):CC X 253 [r,spotV k,.int .u64 k.num] Q s:=by
 cases T with
 | none=>
  rw[show r=.pointer none from hr]
  exact put_nil_spec (o:=o) fun v qs S o' f1 x1 x2=>hq 0 [mk0 [k]] v qs S o' f1 x1 x2 (.inl rfl) rfl
 | some a=>
  obtain⟨n,rfl,hn⟩:=hr;exact pput_spec hn (hT a rfl) fun v qs S o' f1 x1 x2=>hq a.1 _ v qs S o' f1 x1 x2 putN_two rfl
theorem tPut_spec(h:TreeR s o t T)(hT:TOkT p T)(hq:∀t' S o',Fd s S o o' (fun _=>False)->TreeR S o' t' (some (tPut T k))->Q (.pointer (some ⟨t',0,none⟩)) S):CC X 251 [.pointer (some ⟨t,0,none⟩),spotV k,.int .u64 k.num] Q s:=by
 refine f251xin rfl ?_;have o1:Old s (s.alloc (.cells [.int .i64 k.br,.int .i64 k.vol,.int .i64 k.blk,.int .u64 k.num] false)):=by simp
 have b0:(s.alloc (.cells [.int .i64 k.br,.int .i64 k.vol,.int .i64 k.blk,.int .u64 k.num] false)).heap s.next=some (.cells [.int .i64 k.br,.int .i64 k.vol,.int .i64 k.blk,.int .u64 k.num] false):=St.alloc_self
 try simp -implicitDefEqProofs (disch:=first|exact dsc|fail)[-f251xJ1,-f251xJ2,-f251xJ3,-f251xJ6,-f251xJ7]
 generalize hs1:s.alloc (.cells [.int .i64 k.br,.int .i64 k.vol,.int .i64 k.blk,.int .u64 k.num] false)=s1 at *;have h1:=h.old o1;refine TLen_spec h1 fun n=>?_
 try simp -implicitDefEqProofs (disch:=first|exact dsc|fail)[-f251xJ1,-f251xJ2,-f251xJ3,-f251xJ6,-f251xJ7,b0]
 refine Get_spec h1 hT ?_;have key:∀m:Int,f251xJ7 (CC X) Q s (.pointer (some ⟨t,0,none⟩)) (.int .u64 k.num) (.pointer (some ⟨s.next,0,none⟩)) (.int .i64 m) s1:=by
  intro m
  try simp -implicitDefEqProofs (disch:=first|exact dsc|fail)[b0]
  refine Root_spec h1 fun r hr=>?_
  try simp -implicitDefEqProofs (disch:=first|exact dsc|fail)[b0]
  refine putR_spec hr hT fun h' ts v qs S o' f1 x1 x2 x3 x4=>?_;have oS:=o1.fd.trans f1;have hql:=x2.1;have hl:=fun S=>x1.1.len (P:=P) (s':=S) y_P_underlying_231;by_cases h1l:ts.length=1
  ·have hq1:(qs.length:Int)=1:=by omega
   have hi:=fun(q:IntKind)=>x1.1.idx (q:=q) (ag:=false) (j:=0) (by omega) (by omega)
   have hg:=x1.1.one (i:=0) (n:=1) (by omega)
   simp only[Int.toNat_zero,Nat.zero_mul,ptrE_cells]at hi hg;obtain⟨u,rfl⟩:∃u,ts=[u]:=List.length_eq_one_iff.1 h1l;have hN:=x2.2 0 (by omega) (by simp)
   try simp -implicitDefEqProofs (disch:=first|exact dsc|fail)[hl,hq1,hi,hg]
   have f2:Fd S (S.alloc (.cells [.pointer (some ⟨qs[0]'(by omega),0,none⟩),.int .i64 m] false)) o' (tint o' S.next 0) (fun _=>False):=(Old.alloc (.refl _)).tint
   refine kEnd_keep (hq S.next _ _ (oS.trans f2) ⟨.pointer (some ⟨qs[0]'(by omega),0,none⟩),m,⟨by simp,by simp⟩,tint_new (Nat.le_refl _),?_⟩)
   rw[<-x4];exact⟨_,rfl,hN.fd f2 (fun h=>h)⟩
  ·have hq1:¬(qs.length:Int)=1:=by omega
   have d1:=x1.1.data
   try simp -implicitDefEqProofs (disch:=first|exact dsc|fail)[hl,hq1,d1]
   have hlts:ts.length=2:=x3.resolve_left h1l;have hkl:(ts.map (leastN h')).length=ts.length:=by simp
   refine f251xloop0 fun I hI=>?_;refine up (n:=qs.length) (M:=fun i=>∀kv ρ S2,Old S S2->S2.heap S.next=some (.cells [kv,.slice none 0 0,v] false)->S.next<S2.next->spotE.Own S2 kv ρ ((ts.map (leastN h')).take i)->(∀b,ρ=some b->S.next<b)->I (.int .i64 m) (.pointer (some ⟨S.next,0,none⟩)) v (.int .i64 qs.length) (.int .i64 i) S2) (fun i hi ih kv ρ S2 oS2 hb hlt hown hρ=>?_) 0 (Nat.zero_le _) (.slice none 0 0) none _ (by simp) (by simp) (by simp) .nil (fun b e=>by cases e)
   refine hI _ _ _ _ _ _ ?_;have hdS:=x1.old oS2;have hnS:=x2.old oS2;by_cases hlt2:i<qs.length
   ·have hi2:i<ts.length:=by omega
    try simp -implicitDefEqProofs (disch:=first|exact dsc|fail)[hlt2,hdS.1.idx,hdS.1.one]
    refine Least_spec (hnS.2 i hlt2 hi2) fun bb=>?_;have hb':(S2.alloc (.cells [.int .i64 (leastN h' ts[i]).br,.int .i64 (leastN h' ts[i]).vol,.int .i64 (leastN h' ts[i]).blk,.int .u64 (leastN h' ts[i]).num] false)).heap S.next=some (.cells [kv,.slice none 0 0,v] false):=by rw[St.alloc_old hlt];exact hb
    try simp -implicitDefEqProofs (disch:=first|exact dsc|fail)[hb,hb']
    have hown':=hown.same (s':=S2.alloc (.cells [.int .i64 (leastN h' ts[i]).br,.int .i64 (leastN h' ts[i]).vol,.int .i64 (leastN h' ts[i]).blk,.int .u64 (leastN h' ts[i]).num] false)) (by simp) (fun b hb=>St.alloc_old (by subst hb;exact hown.lt))
    refine hown'.pushC (a:=leastN h' ts[i]) y_tSlice_230 y_tZeros_230 (by rfl) (by rfl) (by simp;omega) (by simp;omega) ?_ fun v' S3 ρ' w1 w2 w3=>?_
    ·try simp -implicitDefEqProofs (disch:=first|exact dsc|fail)[hb]
    ·have hb3:S3.heap S.next=some (.cells [kv,.slice none 0 0,v] false):=(w2.eq (by simp;omega) (fun e=>by have:=hρ _ e;omega)).trans hb'
     have hle3:=w2.le;simp only[St.alloc_next]at hle3;have hρ':∀b,ρ'=some b->S.next<b:=fun b hb=>(w3 b hb).elim (fun e=>hρ b e) (fun e=>by simp at e;omega)
     try simp -implicitDefEqProofs (disch:=first|exact dsc|fail)[hb3,w1.in_.data]
     refine ih hlt2 v' ρ' _ ⟨by simp;omega,fun {b} hb=>?_⟩ (by simp) (by simp;omega) ?_ hρ'
     ·rw[St.put_other (by omega),w2.eq (by simp;omega) (fun e=>by have:=hρ _ e;omega),St.alloc_old (by omega),oS2.eq hb]
     ·rw[take_snoc (by simpa using hi2)]
      have:=w1.same (s':=S3.put S.next (.cells [v',.slice none 0 0,v] false)) (by simp) (fun b hb=>St.put_other (by have:=hρ' b hb;omega))
      simpa using this
   ·have hie:i=qs.length:=by omega
    subst hie;have e:(ts.map (leastN h')).take qs.length=ts.map (leastN h'):=by rw[hql,<-hkl,List.take_length]
    rw[e]at hown
    try simp -implicitDefEqProofs (disch:=first|exact dsc|fail)[hlt2]
    have hf:=oS2.tint (o:=o') (k:=0) (c:=fun _=>False);have hN:NodeR S2 (tint o' S.next 0) (h'+1) S.next (mkN ts):=by
     refine NodeR.mk ⟨hlt,hb⟩ (tint_new (Nat.le_refl _)) ⟨hown.in_,fun hx a l c e=>?_⟩ (x1.fd hf (fun h=>h)) (x2.fd hf (fun h=>h));obtain⟨b,c',post,tl,rfl,rfl,_⟩:=hown.ne hx;cases e;exact tint_new (Nat.le_of_lt (hρ b rfl))
    have f2:Fd S2 (S2.alloc (.cells [.pointer (some ⟨S.next,0,none⟩),.int .i64 m] false)) (tint o' S.next 0) (tint (tint o' S.next 0) S2.next 0) (fun _=>False):=(Old.alloc (.refl _)).tint
    refine kEnd_keep (hq S2.next _ _ ((oS.trans hf).trans f2) ⟨.pointer (some ⟨S.next,0,none⟩),m,⟨by simp,by simp⟩,tint_new (Nat.le_refl _),?_⟩)
    have e5:rootL h' ts=⟨h'+1,mkN ts⟩:=by
     match ts,hlts with
     | [a,b],_=>rfl
    rw[<-x4,e5];exact⟨_,rfl,hN.fd f2 (fun h=>h)⟩
 by_cases hh:tHas T k=true
 ·try simp -implicitDefEqProofs (disch:=first|exact dsc|fail)[-f251xJ1,-f251xJ2,-f251xJ3,-f251xJ6,-f251xJ7,hh]
  exact key _
 ·try simp -implicitDefEqProofs (disch:=first|exact dsc|fail)[-f251xJ1,-f251xJ2,-f251xJ3,-f251xJ6,-f251xJ7,hh]
  exact key _
theorem tDel_spec(h:TreeR s o t T)(hT:TOkT p T)(hq:∀t' S o',Fd s S o o' (fun _=>False)->TreeR S o' t' (tDel T k)->Q (.pointer (some ⟨t',0,none⟩)) S):CC X 125 [.pointer (some ⟨t,0,none⟩),spotV k] Q s:=by
 have hlt:t<s.next:=let ⟨_,_,h1,_⟩:=h;h1.lt
 refine f125xin rfl ?_;have o1:Old s (s.alloc (.cells [.int .i64 k.br,.int .i64 k.vol,.int .i64 k.blk,.int .u64 k.num] false)):=by simp
 have b0:(s.alloc (.cells [.int .i64 k.br,.int .i64 k.vol,.int .i64 k.blk,.int .u64 k.num] false)).heap s.next=some (.cells [.int .i64 k.br,.int .i64 k.vol,.int .i64 k.blk,.int .u64 k.num] false):=St.alloc_self
 try simp -implicitDefEqProofs (disch:=first|exact dsc|fail)[]
 generalize hs1:s.alloc (.cells [.int .i64 k.br,.int .i64 k.vol,.int .i64 k.blk,.int .u64 k.num] false)=s1 at *;have h1:=h.old o1;refine Root_spec h1 fun r hr=>?_
 try simp -implicitDefEqProofs (disch:=first|exact dsc|fail)[b0]
 have same:tDel T k=T->Q (.pointer (some ⟨t,0,none⟩)) s:=fun e=>hq t s o .refl (by rw[e];exact h)
 have fin:∀(r':Value) S o' (n:Int),Fd s1 S o o' (fun _=>False)->RootR S o' r' (tDel T k)->Q (.pointer (some ⟨S.next,0,none⟩)) (S.alloc (.cells [r',.int .i64 n] false)):=fun r' S o' n f1 hr'=>by
  have f2:Fd S (S.alloc (.cells [r',.int .i64 n] false)) o' (tint o' S.next 0) (fun _=>False):=(Old.alloc (.refl _)).tint
  exact hq S.next _ _ ((o1.fd.trans f1).trans f2) ⟨r',n,⟨by simp,by simp⟩,tint_new (Nat.le_refl _),hr'.fd f2 (fun h=>h)⟩
 cases T with
 | none=>
  rw[show r=.pointer none from hr]
  refine pDel_nil ?_
  try simp -implicitDefEqProofs (disch:=first|exact dsc|fail)[]
  exact kEnd_back o1 (by simp[hlt]) (same rfl)
 | some a=>
  obtain⟨n,rfl,hn⟩:=hr;refine pDel_spec hn (hT a rfl) (fun hnone=>?_) (fun u S o' hsome f1 hroot=>?_) (fun u a' n' S o' hsome f1 hroot hN=>?_)
  ·try simp -implicitDefEqProofs (disch:=first|exact dsc|fail)[]
   exact kEnd_back o1 (by simp[hlt]) (same (by simp only[tDel];rw[hnone]))
  ·have hS:=f1.chg.old (fun _ _ h=>h)
   try simp -implicitDefEqProofs (disch:=first|exact dsc|fail)[]
   refine TLen_spec (h1.old hS) fun i=>?_
   try simp -implicitDefEqProofs (disch:=first|exact dsc|fail)[]
   exact kEnd_keep (fin _ S o' _ f1 (by simp only[tDel];rw[hsome];simp only;rw[hroot];rfl))
  ·have hS:=f1.chg.old (fun _ _ h=>h)
   try simp -implicitDefEqProofs (disch:=first|exact dsc|fail)[]
   refine TLen_spec (h1.old hS) fun i=>?_
   try simp -implicitDefEqProofs (disch:=first|exact dsc|fail)[]
   exact kEnd_keep (fin _ S o' _ f1 (by simp only[tDel];rw[hsome];simp only;rw[hroot];exact⟨n',rfl,hN⟩))
theorem floor_pick{l:List SpotM}{c:Int}(hc:c=if(fLeaf l k).2 then((fLeaf l k).1:Int)else((fLeaf l k).1:Int)-1):(if 0<=c then l[c.toNat]? else none)=floorL l k:=by
 unfold floorL;split at hc
 ·rename_i h;rw[if_pos h,if_pos (by omega)]
  congr 1;omega
 ·rename_i h;rw[if_neg h];by_cases h0:(fLeaf l k).1=0
  ·rw[if_pos h0,if_neg (by omega)]
  ·rw[if_neg h0,if_pos (by omega)]
   congr 1;omega
theorem Floor_spec(h:TreeR s o t T)(hT:TOkT p T)(hq:Q (oSpot (tFloor T k)) s):CC X 252 [.pointer (some ⟨t,0,none⟩),spotV k] Q s:=by
 refine f252xin rfl ?_;have o1:Old s ((s.alloc (.cells [.int .i64 k.br,.int .i64 k.vol,.int .i64 k.blk,.int .u64 k.num] false)).alloc (.cells [.int .i64 0,.int .i64 0,.int .i64 0,.int .u64 0] false)):=by simp
 have b0:((s.alloc (.cells [.int .i64 k.br,.int .i64 k.vol,.int .i64 k.blk,.int .u64 k.num] false)).alloc (.cells [.int .i64 0,.int .i64 0,.int .i64 0,.int .u64 0] false)).heap s.next=some (.cells [.int .i64 k.br,.int .i64 k.vol,.int .i64 k.blk,.int .u64 k.num] false):=(St.alloc_old (by simp)).trans St.alloc_self
 have b1:((s.alloc (.cells [.int .i64 k.br,.int .i64 k.vol,.int .i64 k.blk,.int .u64 k.num] false)).alloc (.cells [.int .i64 0,.int .i64 0,.int .i64 0,.int .u64 0] false)).heap (s.next+1)=some (.cells [.int .i64 0,.int .i64 0,.int .i64 0,.int .u64 0] false):=St.alloc_at (by simp)
 try simp -implicitDefEqProofs (disch:=first|exact dsc|fail)[]
 generalize hs1:(s.alloc (.cells [.int .i64 k.br,.int .i64 k.vol,.int .i64 k.blk,.int .u64 k.num] false)).alloc (.cells [.int .i64 0,.int .i64 0,.int .i64 0,.int .u64 0] false)=s1 at *;have h1:=h.old o1;refine leaf_spec h1 hT fun r1 r2 hr1 hr2=>?_
 try simp -implicitDefEqProofs (disch:=first|exact dsc|fail)[b0]
 have hok:=tLeaf_ok (k:=k) hT;cases T with
 | none=>
  rw[show r1=.pointer none from hr1]
  refine near_nil ?_
  try simp -implicitDefEqProofs (disch:=first|exact dsc|fail)[oSpot,b1]
  exact kEnd_back (o1.put (by omega)) (bel_tuple (by simp)) (by simpa[tFloor,floorL,tLeaf,fLeaf,oSpot]using hq)
 | some a=>
  obtain⟨n,rfl,hn⟩:=hr1;refine near_spec (c:=if(fLeaf (tLeaf (some a) k).1 k).2 then((fLeaf (tLeaf (some a) k).1 k).1:Int)else((fLeaf (tLeaf (some a) k).1 k).1:Int)-1) hn ⟨hok.1,hok.2.1⟩ (fun Q S hQ=>?_) ?_
  ·have hfl:=fLeaf_le (l:=(tLeaf (some a) k).1) (k:=k);have hl4:=hok.1;simp only[spots_mk0];rw[callF_fv,callG_body (by kernel_rfl)]
   refine f254xin rfl ?_;by_cases hh:(fLeaf (tLeaf (some a) k).1 k).2=true
   ·rw[if_pos hh]at hQ
    try simp -implicitDefEqProofs (disch:=first|exact dsc|fail)[hh]
    exact hQ
   ·rw[if_neg hh]at hQ
    try simp -implicitDefEqProofs (disch:=first|exact dsc|fail)[hh]
    exact hQ
  ·simp only[spots_mk0];rw[floor_pick rfl];unfold tFloor at hq;cases hfl:floorL (tLeaf (some a) k).1 k with
   | none=>
    rw[hfl]at hq
    try simp -implicitDefEqProofs (disch:=first|exact dsc|fail)[oSpot,b1]
    exact kEnd_back (o1.put (by omega)) (bel_tuple (by simp)) (by simpa[oSpot]using hq)
   | some x=>
    rw[hfl]at hq
    try simp -implicitDefEqProofs (disch:=first|exact dsc|fail)[oSpot,b1]
    exact kEnd_back (o1.put (by omega)) (bel_tuple (by simp)) (by simpa[oSpot]using hq)
theorem ceil_near{n:Nat}{l:List SpotM}(hn:NodeR s o 0 n (mk0 l))(hl:l.length<=4)(hp:∀x∈l,p x)(hq:Q (oSpot (ceilL l k)) s):CC X 186 [.pointer (some ⟨n,0,none⟩),spotV k,fv 185] Q s:=by
 refine near_spec (c:=(fLeaf l k).1) hn ⟨hl,hp⟩ (fun Q S hQ=>?_) ?_
 ·rw[callF_fv,callG_body (by kernel_rfl)]
  refine f185xin rfl ?_
  try simp -implicitDefEqProofs (disch:=first|exact dsc|fail)[]
  exact hQ
 ·simp only[spots_mk0];rw[if_pos (by omega)]
  exact hq
theorem ceil_nearR{T':Option AN}{l:List SpotM}{r1:Value}(hr:RootR s o r1 (T'.map fun _=>⟨0,mk0 l⟩))(h0:T'=none->l=[])(hl:l.length<=4)(hp:∀x∈l,p x)(hq:Q (oSpot (ceilL l k)) s):CC X 186 [r1,spotV k,fv 185] Q s:=by
 cases T' with
 | none=>
  rw[show r1=.pointer none from hr]
  rw[h0 rfl]at hq;exact near_nil hq
 | some a=>
  obtain⟨n,rfl,hn⟩:=hr;exact ceil_near hn hl hp hq
theorem Ceil_spec(h:TreeR s o t T)(hT:TOkT p T)(hq:Q (oSpot (tCeil T k)) s):CC X 161 [.pointer (some ⟨t,0,none⟩),spotV k] Q s:=by
 refine f161xin rfl ?_;have o1:Old s ((s.alloc (.cells [.int .i64 k.br,.int .i64 k.vol,.int .i64 k.blk,.int .u64 k.num] false)).alloc (.cells [.int .i64 0,.int .i64 0,.int .i64 0,.int .u64 0] false)):=by simp
 have b0:((s.alloc (.cells [.int .i64 k.br,.int .i64 k.vol,.int .i64 k.blk,.int .u64 k.num] false)).alloc (.cells [.int .i64 0,.int .i64 0,.int .i64 0,.int .u64 0] false)).heap s.next=some (.cells [.int .i64 k.br,.int .i64 k.vol,.int .i64 k.blk,.int .u64 k.num] false):=(St.alloc_old (by simp)).trans St.alloc_self
 have b1:((s.alloc (.cells [.int .i64 k.br,.int .i64 k.vol,.int .i64 k.blk,.int .u64 k.num] false)).alloc (.cells [.int .i64 0,.int .i64 0,.int .i64 0,.int .u64 0] false)).heap (s.next+1)=some (.cells [.int .i64 0,.int .i64 0,.int .i64 0,.int .u64 0] false):=St.alloc_at (by simp)
 try simp -implicitDefEqProofs (disch:=first|exact dsc|fail)[]
 have n1:((s.alloc (.cells [.int .i64 k.br,.int .i64 k.vol,.int .i64 k.blk,.int .u64 k.num] false)).alloc (.cells [.int .i64 0,.int .i64 0,.int .i64 0,.int .u64 0] false)).next=s.next+1+1:=by simp
 generalize hs1:(s.alloc (.cells [.int .i64 k.br,.int .i64 k.vol,.int .i64 k.blk,.int .u64 k.num] false)).alloc (.cells [.int .i64 0,.int .i64 0,.int .i64 0,.int .u64 0] false)=s1 at *;have h1:=h.old o1;refine leaf_spec h1 hT fun r1 r2 hr1 hr2=>?_;have hok:=tLeaf_ok (k:=k) hT;have hnil:∀k,T=none->(tLeaf T k).1=[]:=fun k e=>by subst e;rfl
 try simp -implicitDefEqProofs (disch:=first|exact dsc|fail)[b0]
 refine ceil_nearR hr1 (hnil k) hok.1 hok.2.1 ?_;unfold tCeil at hq;cases hc:ceilL (tLeaf T k).1 k with
 | some x=>
  rw[hc]at hq
  try simp -implicitDefEqProofs (disch:=first|exact dsc|fail)[oSpot,b1]
  exact kEnd_back (o1.put (by omega)).alloc (bel_tuple (by simp)) hq
 | none=>
  rw[hc]at hq;simp only at hq;cases hl:(tLeaf T k).2 with
  | none=>
   rw[hl]at hq hr2;rw[show r2=.pointer none from hr2]
   try simp -implicitDefEqProofs (disch:=first|exact dsc|fail)[oSpot,b1,nil_nil y_P_underlying_199]
   exact kEnd_back (o1.put (by omega)).alloc (bel_tuple (by simp)) hq
  | some a=>
   rw[hl]at hq hr2;simp only at hq;obtain⟨n,rfl,hn⟩:=hr2;have hoka:=hok.2.2 a hl
   try simp -implicitDefEqProofs (disch:=first|exact dsc|fail)[oSpot,b1,nil_ptr y_P_underlying_199]
   have o2:Old s1 (s1.alloc (.cells [.int .i64 0,.int .i64 0,.int .i64 0,.int .u64 0] false)):=by simp
   refine Least_spec (hn.old (by simp)) fun bb=>?_
   have hok2:=tLeaf_ok (k:=leastN a.1 a.2) hT
   try simp -implicitDefEqProofs (disch:=first|exact dsc|fail)[spotV]
   refine leaf_spec (h1.old (by repeat (first|exact Old.refl _|apply Old.alloc))) hT fun r3 r4 hr3 hr4=>?_
   try simp -implicitDefEqProofs (disch:=first|exact dsc|fail)[]
   refine ceil_nearR hr3 (hnil _) hok2.1 hok2.2.1 ?_;cases hc2:ceilL (tLeaf T (leastN a.1 a.2)).1 (leastN a.1 a.2)with
   | some x=>
    rw[hc2]at hq
    try simp -implicitDefEqProofs (disch:=first|exact dsc|fail)[oSpot,b1,n1]
    exact kEnd_back ((o1.put (by omega)).alloc.alloc) (bel_tuple (by simp)) hq
   | none=>
    rw[hc2]at hq
    try simp -implicitDefEqProofs (disch:=first|exact dsc|fail)[oSpot,b1,n1]
    exact kEnd_back ((o1.put (by omega)).alloc.alloc) (bel_tuple (by simp)) hq
end
end Go.Zz
set_option maxRecDepth 20000
set_option linter.all false
namespace Go.Zz
open Go
variable {X : Y0}
def top64:Int:=18446744073709551615
def sameP(a b:SpotM):Bool:=decide (a.br=b.br)&&(decide (a.vol=b.vol)&&decide (a.blk=b.blk))
def iAt(T:Option AN)(k:SpotM):Option Int:=match tFloor T k with
 | some x=>if sameP x k then some x.num else none
 | none=>none
def iNext(T:Option AN)(k:SpotM):Option Int:=if k.num=top64 then none else match tCeil T { k with num:=k.num+1 }with
 | some x=>if sameP x k then some x.num else none
 | none=>none
def iPut(T:Option AN)(k:SpotM):Int×Option AN:=if k.num=0 then(1,T)else
 if(match iAt T { k with num:=top64 }with|some n=>decide (k.num<=n)|none=>false)then(15,T)else(0,some (tPut T k))
def iDrop(T:Option AN)(k:SpotM):Int×Option AN:=if tHas T k then(0,tDel T k)else(4,T)
theorem ne_place(a b c a' b' c':Int):binV P .neq 46 (.agg #[.int .i64 a,.int .i64 b,.int .i64 c]) (.agg #[.int .i64 a',.int .i64 b',.int .i64 c'])=some (.bool !((a==a')&&((b==b')&&((c==c')&&true)))):=by kernel_rfl
def IndexC(s:St)(o:Nat->Nat)(c x:Nat)(T:Option AN):Prop:=∃t,Blk s x [.pointer (some ⟨t,0,none⟩)]/\o x=c/\TreeR s o t T/\TOkT spOk T
theorem IndexC.fd{s S:St}{o o':Nat->Nat}{d:Nat->Prop}{c x:Nat}{T:Option AN}(h:IndexC s o c x T)(g:Fd s S o o' d)(hd:¬d c)(hd0:¬d 0):IndexC S o' c x T:=by
 obtain⟨t,h1,h2,h3,h4⟩:=h;exact⟨t,h1.fd g (by rw[h2];exact hd),(g.col h1.lt).trans h2,h3.fd g hd0,h4⟩
theorem IndexC.old{s S:St}{o:Nat->Nat}{c x:Nat}{T:Option AN}(h:IndexC s o c x T)(g:Old s S):IndexC S o c x T:=h.fd (d:=fun _=>False) g.fd (fun h=>h) (fun h=>h)
section
variable {s : St} {o : Nat → Nat} {c x : Nat} {T : Option AN} {k : SpotM} {Q : Post}
theorem iNew_spec(c:Nat)(hq:∀x S o',Fd s S o o' (fun _=>False)->IndexC S o' c x none->Q (.pointer (some ⟨x,0,none⟩)) S):CC X 48 [] Q s:=by
 refine f48xin rfl ?_
 try simp -implicitDefEqProofs (disch:=first|exact dsc|fail)[]
 refine TNew_spec (o:=o) fun t S o' f1 h1=>?_
 try simp -implicitDefEqProofs (disch:=first|exact dsc|fail)[]
 have f2:Fd S (S.alloc (.cells [.pointer (some ⟨t,0,none⟩)] false)) o' (tint o' S.next c) (fun _=>False):=(Old.alloc (.refl _)).tint
 exact kEnd_keep (hq S.next _ _ (f1.trans f2) ⟨t,⟨by simp,by simp⟩,tint_new (Nat.le_refl _),h1.fd f2 (fun h=>h),fun a e=>by cases e⟩)
theorem iTree_spec{t:Nat}(h:Blk s x [.pointer (some ⟨t,0,none⟩)])(hq:Q (.pointer (some ⟨t,0,none⟩)) s):CC X 69 [.pointer (some ⟨x,0,none⟩)] Q s:=by
 refine f69xin rfl ?_
 try simp -implicitDefEqProofs (disch:=first|exact dsc|fail)[nil_ptr y_P_underlying_78,nil_ptr y_P_underlying_140,h.eq]
 exact hq
theorem iClone_spec(c':Nat)(h:IndexC s o c x T)(hq:∀x' S o',Fd s S o o' (fun _=>False)->IndexC S o' c' x' T->Q (.pointer (some ⟨x',0,none⟩)) S):CC X 37 [.pointer (some ⟨x,0,none⟩)] Q s:=by
 obtain⟨t,h1,h2,h3,h4⟩:=h;refine f37xin rfl ?_
 try simp -implicitDefEqProofs (disch:=first|exact dsc|fail)[]
 refine iTree_spec h1 ?_
 try simp -implicitDefEqProofs (disch:=first|exact dsc|fail)[]
 have f2:Fd s (s.alloc (.cells [.pointer (some ⟨t,0,none⟩)] false)) o (tint o s.next c') (fun _=>False):=(Old.alloc (.refl _)).tint
 exact kEnd_keep (hq s.next _ _ f2 ⟨t,⟨by simp,by simp⟩,tint_new (Nat.le_refl _),h3.fd f2 (fun h=>h),h4⟩)
abbrev placeV(k:SpotM):Value:=.agg #[.int .i64 k.br,.int .i64 k.vol,.int .i64 k.blk]
theorem iAt_spec(h:IndexC s o c x T)(hq:Q (.tuple #[.int .u64 ((iAt T k).getD 0),.bool (iAt T k).isSome]) s):CC X 250 [.pointer (some ⟨x,0,none⟩),placeV k,.int .u64 k.num] Q s:=by
 obtain⟨t,h1,h2,h3,h4⟩:=h;have hlt:=h1.lt;refine f250xin rfl ?_;have o1:Old s (s.alloc (.cells [.int .i64 k.br,.int .i64 k.vol,.int .i64 k.blk] false)):=by simp
 have b0:(s.alloc (.cells [.int .i64 k.br,.int .i64 k.vol,.int .i64 k.blk] false)).heap s.next=some (.cells [.int .i64 k.br,.int .i64 k.vol,.int .i64 k.blk] false):=St.alloc_self
 try simp -implicitDefEqProofs (disch:=first|exact dsc|fail)[nil_ptr y_P_underlying_78,h1.eq]
 have n1:(s.alloc (.cells [.int .i64 k.br,.int .i64 k.vol,.int .i64 k.blk] false)).next=s.next+1:=by simp
 generalize hs1:s.alloc (.cells [.int .i64 k.br,.int .i64 k.vol,.int .i64 k.blk] false)=s1 at *;refine Floor_spec (h3.old o1) h4 ?_;unfold iAt at hq;cases hf:tFloor T k with
 | none=>
  rw[hf]at hq
  try simp -implicitDefEqProofs (disch:=first|exact dsc|fail)[oSpot]
  exact kEnd_back o1.alloc (bel_tuple (by simp)) hq
 | some y=>
  rw[hf]at hq;simp only[sameP]at hq;by_cases e1:y.br=k.br
  ·by_cases e2:y.vol=k.vol
   ·by_cases e3:y.blk=k.blk
    ·try simp -implicitDefEqProofs (disch:=first|exact dsc|fail)[oSpot,ne_place,b0,n1,e1,e2,e3]
     exact kEnd_back o1.alloc (bel_tuple (by simp)) (by simpa[e1,e2,e3]using hq)
    ·try simp -implicitDefEqProofs (disch:=first|exact dsc|fail)[oSpot,ne_place,b0,n1,e1,e2,e3]
     exact kEnd_back o1.alloc (bel_tuple (by simp)) (by simpa[e1,e2,e3]using hq)
   ·try simp -implicitDefEqProofs (disch:=first|exact dsc|fail)[oSpot,ne_place,b0,n1,e1,e2]
    exact kEnd_back o1.alloc (bel_tuple (by simp)) (by simpa[e1,e2]using hq)
  ·try simp -implicitDefEqProofs (disch:=first|exact dsc|fail)[oSpot,ne_place,b0,n1,e1]
   exact kEnd_back o1.alloc (bel_tuple (by simp)) (by simpa[e1]using hq)
theorem iNext_spec(h:IndexC s o c x T)(hk0:0<=k.num)(hk:k.num<=top64)(hq:Q (.tuple #[.int .u64 ((iNext T k).getD 0),.bool (iNext T k).isSome]) s):CC X 135 [.pointer (some ⟨x,0,none⟩),placeV k,.int .u64 k.num] Q s:=by
 obtain⟨t,h1,h2,h3,h4⟩:=h;have hlt:=h1.lt;refine f135xin rfl ?_;have o1:Old s (s.alloc (.cells [.int .i64 k.br,.int .i64 k.vol,.int .i64 k.blk] false)):=by simp
 have b0:(s.alloc (.cells [.int .i64 k.br,.int .i64 k.vol,.int .i64 k.blk] false)).heap s.next=some (.cells [.int .i64 k.br,.int .i64 k.vol,.int .i64 k.blk] false):=St.alloc_self
 unfold iNext at hq;by_cases h0:k.num=top64
 ·rw[if_pos h0]at hq;have h0':k.num=18446744073709551615:=h0
  try simp -implicitDefEqProofs (disch:=first|exact dsc|fail)[nil_ptr y_P_underlying_78,h0']
  exact kEnd_back o1 (bel_tuple (by simp)) hq
 ·rw[if_neg h0]at hq;have h0':¬k.num=18446744073709551615:=h0;have hw:IntKind.u64.wrap (k.num+1)=k.num+1:=wrap_u64 (by omega) (by unfold top64 at *;omega)
  try simp -implicitDefEqProofs (disch:=first|exact dsc|fail)[nil_ptr y_P_underlying_78,h1.eq,h0',hw]
  have n1:(s.alloc (.cells [.int .i64 k.br,.int .i64 k.vol,.int .i64 k.blk] false)).next=s.next+1:=by simp
  generalize hs1:s.alloc (.cells [.int .i64 k.br,.int .i64 k.vol,.int .i64 k.blk] false)=s1 at *;refine Ceil_spec (k:={ k with num:=k.num+1 }) (h3.old o1) h4 ?_;cases hf:tCeil T { k with num:=k.num+1 }with
  | none=>
   rw[hf]at hq
   try simp -implicitDefEqProofs (disch:=first|exact dsc|fail)[oSpot]
   exact kEnd_back o1.alloc (bel_tuple (by simp)) hq
  | some y=>
   rw[hf]at hq;simp only[sameP]at hq;by_cases e1:y.br=k.br
   ·by_cases e2:y.vol=k.vol
    ·by_cases e3:y.blk=k.blk
     ·try simp -implicitDefEqProofs (disch:=first|exact dsc|fail)[oSpot,ne_place,b0,n1,e1,e2,e3]
      exact kEnd_back o1.alloc (bel_tuple (by simp)) (by simpa[e1,e2,e3]using hq)
     ·try simp -implicitDefEqProofs (disch:=first|exact dsc|fail)[oSpot,ne_place,b0,n1,e1,e2,e3]
      exact kEnd_back o1.alloc (bel_tuple (by simp)) (by simpa[e1,e2,e3]using hq)
    ·try simp -implicitDefEqProofs (disch:=first|exact dsc|fail)[oSpot,ne_place,b0,n1,e1,e2]
     exact kEnd_back o1.alloc (bel_tuple (by simp)) (by simpa[e1,e2]using hq)
   ·try simp -implicitDefEqProofs (disch:=first|exact dsc|fail)[oSpot,ne_place,b0,n1,e1]
    exact kEnd_back o1.alloc (bel_tuple (by simp)) (by simpa[e1]using hq)
theorem IndexC.set{S:St}{o':Nat->Nat}{t':Nat}{T':Option AN}(h:IndexC s o c x T)(f:Fd s S o o' (fun _=>False))(hc:c≠0)(h1:TreeR S o' t' T')(h2:TOkT spOk T') :
  IndexC (S.put x (.cells [.pointer (some ⟨t',0,none⟩)] false)) o' c x T'/\Fd s (S.put x (.cells [.pointer (some ⟨t',0,none⟩)] false)) o o' (·=c):=by
 obtain⟨t,g1,g2,g3,g4⟩:=h;have hx:=g1.lt;have hle:=f.chg.le;have f2:Fd S (S.put x (.cells [.pointer (some ⟨t',0,none⟩)] false)) o' o' (·=c):=⟨⟨by simp,fun {b} hb hn=>St.put_other (fun e=>hn (by rw[e,f.col hx];exact g2))⟩,fun _=>rfl⟩
 exact⟨⟨t',⟨by simp;omega,by simp⟩,(f.col hx).trans g2,h1.fd f2 (fun e=>hc e.symm),h2⟩,(f.mono (fun _ h=>h.elim)).trans f2⟩
theorem iPut_spec(h:IndexC s o c x T)(hc:c≠0)(hk:spOk k)(hq:∀S o',IndexC S o' c x (iPut T k).2->Fd s S o o' (·=c)->Q (.int .i64 (iPut T k).1) S):CC X 245 [.pointer (some ⟨x,0,none⟩),placeV k,.int .u64 k.num] Q s:=by
 have hI:=h;obtain⟨t,h1,h2,h3,h4⟩:=h;have hlt:=h1.lt;refine f245xin rfl ?_;have o1:Old s (s.alloc (.cells [.int .i64 k.br,.int .i64 k.vol,.int .i64 k.blk] false)):=by simp
 have b0:(s.alloc (.cells [.int .i64 k.br,.int .i64 k.vol,.int .i64 k.blk] false)).heap s.next=some (.cells [.int .i64 k.br,.int .i64 k.vol,.int .i64 k.blk] false):=St.alloc_self
 unfold iPut at hq;have same:∀e,(∀S o',IndexC S o' c x T->Fd s S o o' (·=c)->Q (.int .i64 e) S)->Q (.int .i64 e) s:=fun e hq=>hq s o hI .refl;by_cases h0:k.num=0
 ·rw[if_pos h0]at hq
  try simp -implicitDefEqProofs (disch:=first|exact dsc|fail)[nil_ptr y_P_underlying_78,h0]
  exact kEnd_back o1 (.int _ _) (same 1 hq)
 ·rw[if_neg h0]at hq
  try simp -implicitDefEqProofs (disch:=first|exact dsc|fail)[nil_ptr y_P_underlying_78,h0]
  generalize hs1:s.alloc (.cells [.int .i64 k.br,.int .i64 k.vol,.int .i64 k.blk] false)=s1 at *;refine iAt_spec (k:={ k with num:=top64 }) (hI.old o1) ?_;have put:Q (.int .i64 0) s->True:=fun _=>trivial;have fin:(∀S o',IndexC S o' c x (some (tPut T k))->Fd s S o o' (·=c)->Q (.int .i64 0) S)->f245xJ1 (CC X) Q s (.pointer (some ⟨x,0,none⟩)) (.int .u64 k.num) (.pointer (some ⟨s.next,0,none⟩)) s1:=fun hq=>by
   have h1':=h1.old o1
   try simp -implicitDefEqProofs (disch:=first|exact dsc|fail)[h1'.eq,b0]
   refine tPut_spec (h3.old o1) h4 fun t' S o' f1 hT'=>?_;have fS:=o1.fd.trans f1;have hx:x<S.next:=by have:=fS.chg.le;omega
   have e1:S.heap x=some (.cells [.pointer (some ⟨t,0,none⟩)] false):=(fS.chg.eq hlt (fun h=>h)).trans h1.eq
   try simp -implicitDefEqProofs (disch:=first|exact dsc|fail)[e1]
   obtain⟨a1,a2⟩:=hI.set fS hc hT' (fun a e=>by cases e;exact tPut_ok h4 hk)
   exact kEnd_keep (hq _ o' a1 a2)
  cases ha:iAt T { k with num:=top64 }with
  | none=>
   rw[ha]at hq
   try simp -implicitDefEqProofs (disch:=first|exact dsc|fail)[-f245xJ1,-f245xJ2]
   exact fin hq
  | some n=>
   rw[ha]at hq;simp only at hq;by_cases hn:k.num<=n
   ·rw[if_pos (by simpa using hn)]at hq
    try simp -implicitDefEqProofs (disch:=first|exact dsc|fail)[-f245xJ1,-f245xJ2,hn]
    exact kEnd_back o1 (.int _ _) (same 15 hq)
   ·rw[if_neg (by simpa using hn)]at hq
    try simp -implicitDefEqProofs (disch:=first|exact dsc|fail)[-f245xJ1,-f245xJ2,hn]
    exact fin hq
theorem iDrop_spec(h:IndexC s o c x T)(hc:c≠0)(hq:∀S o',IndexC S o' c x (iDrop T k).2->Fd s S o o' (·=c)->Q (.int .i64 (iDrop T k).1) S):CC X 92 [.pointer (some ⟨x,0,none⟩),placeV k,.int .u64 k.num] Q s:=by
 have hI:=h;obtain⟨t,h1,h2,h3,h4⟩:=h;have hlt:=h1.lt;refine f92xin rfl ?_;unfold iDrop at hq
 try simp -implicitDefEqProofs (disch:=first|exact dsc|fail)[nil_ptr y_P_underlying_78,h1.eq]
 have o1:Old s ((s.alloc (.cells [.int .i64 k.br,.int .i64 k.vol,.int .i64 k.blk] false)).alloc (.cells [.int .i64 k.br,.int .i64 k.vol,.int .i64 k.blk,.int .u64 k.num] false)):=by simp
 have b1:((s.alloc (.cells [.int .i64 k.br,.int .i64 k.vol,.int .i64 k.blk] false)).alloc (.cells [.int .i64 k.br,.int .i64 k.vol,.int .i64 k.blk,.int .u64 k.num] false)).heap (s.next+1)=some (.cells [.int .i64 k.br,.int .i64 k.vol,.int .i64 k.blk,.int .u64 k.num] false):=St.alloc_at (by simp)
 generalize hs1:(s.alloc (.cells [.int .i64 k.br,.int .i64 k.vol,.int .i64 k.blk] false)).alloc (.cells [.int .i64 k.br,.int .i64 k.vol,.int .i64 k.blk,.int .u64 k.num] false)=s1 at *;refine Get_spec (h3.old o1) h4 ?_;by_cases hh:tHas T k=true
 ·rw[if_pos hh]at hq;have h1':=h1.old o1
  try simp -implicitDefEqProofs (disch:=first|exact dsc|fail)[hh,h1'.eq,b1]
  refine tDel_spec (h3.old o1) h4 fun t' S o' f1 hT'=>?_;have fS:=o1.fd.trans f1;have hx:x<S.next:=by have:=fS.chg.le;omega
  have e1:S.heap x=some (.cells [.pointer (some ⟨t,0,none⟩)] false):=(fS.chg.eq hlt (fun h=>h)).trans h1.eq
  try simp -implicitDefEqProofs (disch:=first|exact dsc|fail)[e1]
  obtain⟨a1,a2⟩:=hI.set fS hc hT' (tDel_ok h4);exact kEnd_keep (hq _ o' a1 a2)
 ·rw[if_neg hh]at hq
  try simp -implicitDefEqProofs (disch:=first|exact dsc|fail)[hh]
  exact kEnd_back o1 (.int _ _) (hq s o hI .refl)
end
end Go.Zz
