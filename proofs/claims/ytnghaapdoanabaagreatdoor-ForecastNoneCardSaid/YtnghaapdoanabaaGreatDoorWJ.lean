import Derived.Test.YtnghaapdoanabaaGreatDoorWI
set_option linter.all false
set_option maxRecDepth 20000
set_option linter.all false
namespace Go.Zz
open Go
variable {X : Y0}
def sp0:SpotM:=⟨0,0,0,0⟩
def ord(a b:SpotM):Int:=
 if cmp3 a.br b.br≠0 then cmp3 a.br b.br else if cmp3 a.vol b.vol≠0 then cmp3 a.vol b.vol else if cmp3 a.blk b.blk≠0 then cmp3 a.blk b.blk else cmp3 a.num b.num
theorem cmp3xzero{a b:Int}:cmp3 a b=0↔a=b:=by unfold cmp3;split<;>(try split)<;>omega
theorem ord_zero{a b:SpotM}:ord a b=0↔a=b:=by
 unfold ord;cases a;cases b;simp only[SpotM.mk.injEq];split
 ·rename_i h;have h':=h;rw[ne_eq,cmp3xzero]at h';exact⟨fun e=>absurd e h,fun e=>absurd e.1 h'⟩
 ·rename_i h;rw[ne_eq,Decidable.not_not,cmp3xzero]at h;split
  ·rename_i g;have g':=g;rw[ne_eq,cmp3xzero]at g';exact⟨fun e=>absurd e g,fun e=>absurd e.2.1 g'⟩
  ·rename_i g;rw[ne_eq,Decidable.not_not,cmp3xzero]at g;split
   ·rename_i f;have f':=f;rw[ne_eq,cmp3xzero]at f';exact⟨fun e=>absurd e f,fun e=>absurd e.2.2.1 f'⟩
   ·rename_i f;rw[ne_eq,Decidable.not_not,cmp3xzero]at f;rw[cmp3xzero];simp[h,g,f]
def fLeaf:List SpotM->SpotM->Nat×Bool
 | [],_=>(0,false)
 | x::r,k=>if 0<=ord x k then(0,decide (ord x k=0))else((fLeaf r k).1+1,(fLeaf r k).2)
theorem fLeaf_le{k:SpotM}:∀{l:List SpotM},(fLeaf l k).1<=l.length
 | []=>by simp[fLeaf]
 | x::r=>by unfold fLeaf;split<;>simp;exact fLeaf_le
theorem fLeaf_at{k:SpotM}:∀{l:List SpotM} {i:Nat} (hi:i<l.length),(∀j (hj:j<l.length),j<i->ord l[j] k<0)->0<=ord l[i] k->fLeaf l k=(i,decide (ord l[i] k=0))
 | x::r,0,_,_,h=>by simp only[List.getElem_cons_zero]at h;simp[fLeaf,h]
 | x::r,i+1,hi,h1,h2=>by
  have h0:=h1 0 (by simp) (by omega)
  simp only[List.getElem_cons_zero]at h0;have:=fLeaf_at (k:=k) (l:=r) (i:=i) (by simpa using hi) (fun j hj hji=>by have:=h1 (j+1) (by simpa using hj) (by omega);rwa [List.getElem_cons_succ]at this) (by rwa [List.getElem_cons_succ]at h2)
  simp only[fLeaf,if_neg (show ¬0<=ord x k by omega),this,List.getElem_cons_succ]
theorem fLeaf_none{k:SpotM}:∀{l:List SpotM},(∀j (hj:j<l.length),ord l[j] k<0)->fLeaf l k=(l.length,false)
 | [],_=>rfl
 | x::r,h=>by
  have h0:=h 0 (by simp)
  simp only[List.getElem_cons_zero]at h0;simp[fLeaf,show ¬0<=ord x k by omega,fLeaf_none (k:=k) (l:=r) (fun j hj=>by have:=h (j+1) (by simpa using hj);rwa [List.getElem_cons_succ]at this)]
theorem fLeaf_had{k:SpotM}:∀{l:List SpotM},(fLeaf l k).2=true->∃h:(fLeaf l k).1<l.length,l[(fLeaf l k).1]=k
 | [],h=>by simp[fLeaf]at h
 | x::r,h=>by
  unfold fLeaf at h ⊢;split at h
  ·rename_i h0;simp only[decide_eq_true_eq,ord_zero]at h;simp only[if_pos h0];exact⟨by simp,by simpa using h⟩
  ·rename_i h0;obtain⟨h1,h2⟩:=fLeaf_had h;simp only[if_neg h0];exact⟨by simpa using h1,by simpa using h2⟩
def fIn(l:List SpotM)(k:SpotM):Nat×Bool:=match(List.range l.length).reverse.find? (fun i=>decide (ord (l.getD i sp0) k<=0))with
 | some i=>(i,decide (ord (l.getD i sp0) k=0))
 | none=>(0,false)
theorem fIn_lt{l:List SpotM}{k:SpotM}(h:0<l.length):(fIn l k).1<l.length:=by
 unfold fIn;split
 ·rename_i i hi;have:=List.mem_of_find?_eq_some hi;simpa using this
 ·exact h
theorem find_rev{n i:Nat}{p:Nat->Bool}(hi:i<n)(h1:p i=true)(h2:∀j,i<j->j<n->p j=false):(List.range n).reverse.find? p=some i:=by
 induction n with
 | zero=>omega
 | succ n ih=>
  rw[List.range_succ,List.reverse_append,List.reverse_singleton,List.singleton_append,List.find?_cons];by_cases e:i=n
  ·subst e;rw[h1]
  ·rw[h2 n (by omega) (by omega)]
   exact ih (by omega) (fun j a b=>h2 j a (by omega))
theorem fIn_at{l:List SpotM}{k:SpotM}{i:Nat}(hi:i<l.length)(h1:ord l[i] k<=0)(h2:∀j (hj:j<l.length),i<j->0<ord l[j] k):fIn l k=(i,decide (ord l[i] k=0)):=by
 have e:l.getD i sp0=l[i]:=by simp[List.getD_eq_getElem?_getD,hi]
 unfold fIn;rw[find_rev hi (by rw[e];simpa using h1) (fun j a b=>by
  have:=h2 j b a;have e:l.getD j sp0=l[j]:=by simp[List.getD_eq_getElem?_getD,b]
  rw[e];simp;omega)]
 simp only[e]
theorem fIn_none{l:List SpotM}{k:SpotM}(h:∀j (hj:j<l.length),0<ord l[j] k):fIn l k=(0,false):=by
 unfold fIn;rw[List.find?_eq_none.2 (fun j hj=>by
  have hj:j<l.length:=by simpa using hj
  have:=h j hj;have e:l.getD j sp0=l[j]:=by simp[List.getD_eq_getElem?_getD,hj]
  rw[e];simp;omega)]
def NT:Nat->Type
 | 0=>List SpotM
 | h+1=>List (NT h)
def spots(t:NT 0):List SpotM:=t
def mk0(l:List SpotM):NT 0:=l
def kids{h:Nat}(t:NT (h+1)):List (NT h):=t
def mkN{h:Nat}(l:List (NT h)):NT (h+1):=l
@[simp]theorem spots_mk0(l:List SpotM):spots (mk0 l)=l:=rfl
@[simp]theorem kids_mkN{h:Nat}(l:List (NT h)):kids (mkN l)=l:=rfl
@[simp]theorem mk0xspots(t:NT 0):mk0 (spots t)=t:=rfl
@[simp]theorem mkN_kids{h:Nat}(t:NT (h+1)):mkN (kids t)=t:=rfl
def keysN:(h:Nat)->NT h->List SpotM
 | 0,t=>spots t
 | h+1,t=>(kids t).map fun u=>(keysN h u).headD sp0
def leastN(h:Nat)(t:NT h):SpotM:=(keysN h t).headD sp0
def lenN:(h:Nat)->NT h->Nat
 | 0,t=>(spots t).length
 | _+1,t=>(kids t).length
theorem keysN_len:∀{h:Nat} {t:NT h},(keysN h t).length=lenN h t
 | 0,_=>rfl
 | _+1,_=>by simp only[keysN,lenN,List.length_map]
def spOk(x:SpotM):Prop:=0<=x.br/\x.br<=100000/\0<=x.vol/\x.vol<=100000/\0<=x.blk/\x.blk<=100000/\0<=x.num/\x.num<=100000
theorem sp0xok:spOk sp0:=by simp[spOk,sp0]
def OkN(p:SpotM->Prop):(h:Nat)->NT h->Prop
 | 0,t=>(spots t).length<=4/\∀x∈spots t,p x
 | h+1,t=>1<=(kids t).length/\(kids t).length<=4/\∀u∈kids t,OkN p h u
def flatN:(h:Nat)->NT h->List SpotM
 | 0,t=>spots t
 | h+1,t=>(kids t).flatMap (flatN h)
def halvesL{α:Type}(l:List α):List (List α):=if l.length<=4 then [l]else [l.take ((l.length+1)/2),l.drop ((l.length+1)/2)]
def putN:(h:Nat)->NT h->SpotM->List (NT h)
 | 0,t,k=>if(fLeaf (spots t) k).2 then [t]else(halvesL ((spots t).take (fLeaf (spots t) k).1++k::(spots t).drop (fLeaf (spots t) k).1)).map mk0
 | h+1,t,k=>match(kids t)[(fIn (keysN (h+1) t) k).1]? with
  | some u=>(halvesL ((kids t).take (fIn (keysN (h+1) t) k).1++(putN h u k++(kids t).drop ((fIn (keysN (h+1) t) k).1+1)))).map mkN
  | none=>[t]
def joinN:(h:Nat)->NT h->NT h->List (NT h)
 | 0,a,b=>(halvesL (spots a++spots b)).map mk0
 | _+1,a,b=>(halvesL (kids a++kids b)).map mkN
def mendJ(n i:Nat):Nat:=if i=n-1 then i-1 else i
def mendN(h:Nat)(l:List (NT h))(i:Nat)(c:NT h):List (NT h):=
 if lenN h c<2/\1<l.length then
  (l.set i c).take (mendJ l.length i)++((match(l.set i c)[mendJ l.length i]?,(l.set i c)[mendJ l.length i+1]? with|some a,some b=>joinN h a b|_,_=>[])++(l.set i c).drop (mendJ l.length i+2))
 else l.set i c
def delN:(h:Nat)->NT h->SpotM->Option (NT h)
 | 0,t,k=>if(fLeaf (spots t) k).2 then some (mk0 ((spots t).take (fLeaf (spots t) k).1++(spots t).drop ((fLeaf (spots t) k).1+1)))else none
 | h+1,t,k=>match(kids t)[(fIn (keysN (h+1) t) k).1]? with
  | some u=>(delN h u k).map fun c=>mkN (mendN h (kids t) (fIn (keysN (h+1) t) k).1 c)
  | none=>none
abbrev AN:=(h:Nat)×NT h
def topN:(h:Nat)->NT h->AN
 | 0,t=>⟨0,t⟩
 | h+1,t=>match kids t with
  | [u]=>topN h u
  | _=>⟨h+1,t⟩
theorem halvesL_len{α:Type}{l:List α}(h:l.length<=8):∀x∈halvesL l,x.length<=4:=by
 unfold halvesL;split
 ·intro x hx;simp at hx;subst hx;assumption
 ·intro x hx;simp at hx;rcases hx with rfl|rfl<;>simp<;>omega
theorem halvesL_pos{α:Type}{l:List α}(h0:0<l.length):∀x∈halvesL l,1<=x.length:=by
 unfold halvesL;split
 ·intro x hx;simp at hx;subst hx;omega
 ·intro x hx;simp at hx;rcases hx with rfl|rfl<;>simp<;>omega
theorem halvesL_mem{α:Type}{l:List α}{x:List α}{a:α}(hx:x∈halvesL l)(ha:a∈x):a∈l:=by
 unfold halvesL at hx;split at hx
 ·simp at hx;subst hx;exact ha
 ·simp at hx;rcases hx with rfl|rfl
  ·exact List.mem_of_mem_take ha
  ·exact List.mem_of_mem_drop ha
theorem halvesL_two{α:Type}{l:List α}:(halvesL l).length=1\/(halvesL l).length=2:=by
 unfold halvesL;split<;>simp
section
variable {p : SpotM → Prop}
theorem OkN.len{h:Nat}{t:NT h}(ho:OkN p h t):lenN h t<=4:=by
 cases h with
 | zero=>exact ho.1
 | succ h=>exact ho.2.1
theorem OkN.mono{q:SpotM->Prop}(hpq:∀x,p x->q x):∀{h:Nat} {t:NT h},OkN p h t->OkN q h t
 | 0,_,ho=>⟨ho.1,fun x hx=>hpq x (ho.2 x hx)⟩
 | _+1,_,ho=>⟨ho.1,ho.2.1,fun u hu=>OkN.mono hpq (ho.2.2 u hu)⟩
theorem OkN.keys(h0:p sp0):∀{h:Nat} {t:NT h},OkN p h t->∀x∈keysN h t,p x
 | 0,_,ho,x,hx=>ho.2 x hx
 | h+1,t,ho,x,hx=>by
  simp only[keysN,List.mem_map]at hx;obtain⟨u,hu,rfl⟩:=hx;have:=OkN.keys h0 (ho.2.2 u hu);cases hk:keysN h u with
  | nil=>exact h0
  | cons y r=>rw[hk]at this;exact this y (by simp)
theorem putN_two:∀{h:Nat} {t:NT h} {k:SpotM},(putN h t k).length=1\/(putN h t k).length=2
 | 0,t,k=>by
  unfold putN;split
  ·simp
  ·rw[List.length_map];exact halvesL_two
 | h+1,t,k=>by
  unfold putN;split
  ·rw[List.length_map];exact halvesL_two
  ·simp
theorem putN_ok:∀{h:Nat} {t:NT h} {k:SpotM},OkN p h t->p k->∀x∈putN h t k,OkN p h x
 | 0,t,k,ho,hk=>by
  unfold putN;split
  ·intro x hx;simp at hx;subst hx;exact ho
  ·intro x hx;obtain⟨l,hl,rfl⟩:=List.mem_map.1 hx;have h1:=ho.1;have h3:=fLeaf_le (l:=spots t) (k:=k);refine⟨halvesL_len (by simp;omega) l hl,fun a ha=>?_⟩
   have:=halvesL_mem hl ha;simp only[List.mem_append,List.mem_cons]at this;rcases this with h|rfl|h
   ·exact ho.2 a (List.mem_of_mem_take h)
   ·exact hk
   ·exact ho.2 a (List.mem_of_mem_drop h)
 | h+1,t,k,ho,hk=>by
  unfold putN;split
  ·rename_i u hu;intro x hx;obtain⟨l,hl,rfl⟩:=List.mem_map.1 hx;obtain⟨hi,he⟩:=List.getElem?_eq_some_iff.1 hu;obtain⟨_,h1,hok⟩:=ho;have htm:u∈kids t:=by rw[<-he];exact List.getElem_mem hi
   have h2:=putN_two (h:=h) (t:=u) (k:=k);have hp:=putN_ok (k:=k) (hok u htm) hk;refine⟨halvesL_pos (by simp;omega) l hl,halvesL_len (by simp;omega) l hl,fun a ha=>?_⟩
   have:=halvesL_mem hl ha;simp only[List.mem_append]at this;rcases this with h|h|h
   ·exact hok a (List.mem_of_mem_take h)
   ·exact hp a h
   ·exact hok a (List.mem_of_mem_drop h)
  ·intro x hx;simp at hx;subst hx;exact ho
theorem joinN_ok:∀{h:Nat} {a b:NT h},OkN p h a->OkN p h b->(∀x∈joinN h a b,OkN p h x)/\((joinN h a b).length=1\/(joinN h a b).length=2)
 | 0,a,b,ha,hb=>by
  unfold joinN;refine⟨fun x hx=>?_,by rw[List.length_map];exact halvesL_two⟩
  obtain⟨l,hl,rfl⟩:=List.mem_map.1 hx;obtain⟨h1,g1⟩:=ha;obtain⟨h2,g2⟩:=hb;refine⟨halvesL_len (by simp;omega) l hl,fun s hs=>?_⟩
  rcases List.mem_append.1 (halvesL_mem hl hs)with e|e
  ·exact g1 s e
  ·exact g2 s e
 | h+1,a,b,ha,hb=>by
  unfold joinN;refine⟨fun x hx=>?_,by rw[List.length_map];exact halvesL_two⟩
  obtain⟨l,hl,rfl⟩:=List.mem_map.1 hx;obtain⟨h0,h1,g1⟩:=ha;obtain⟨_,h2,g2⟩:=hb;refine⟨halvesL_pos (by simp;omega) l hl,halvesL_len (by simp;omega) l hl,fun s hs=>?_⟩
  rcases List.mem_append.1 (halvesL_mem hl hs)with e|e
  ·exact g1 s e
  ·exact g2 s e
theorem mendJ_lt{n i:Nat}(hi:i<n)(hn:1<n):mendJ n i+1<n:=by unfold mendJ;split<;>omega
theorem mendN_ok{h:Nat}{l:List (NT h)}{i:Nat}{c:NT h}(h1:1<=l.length)(h2:l.length<=4)(h3:∀t∈l,OkN p h t)(hi:i<l.length)(hc:OkN p h c):OkN p (h+1) (mkN (mendN h l i c)):=by
 have hm:∀t∈l.set i c,OkN p h t:=fun t ht=>by
  rcases List.mem_or_eq_of_mem_set ht with e|e
  ·exact h3 t e
  ·subst e;exact hc
 unfold mendN;split
 ·rename_i hg;obtain⟨g1,g2⟩:=hg;have hjl:=mendJ_lt hi g2;generalize mendJ l.length i=j at hjl;have hl1:j<(l.set i c).length:=by simp;omega
  have hl2:j+1<(l.set i c).length:=by simp;omega
  rw[List.getElem?_eq_getElem hl1,List.getElem?_eq_getElem hl2];simp only;obtain⟨k1,k2⟩:=joinN_ok (hm _ (List.getElem_mem hl1)) (hm _ (List.getElem_mem hl2));refine⟨by simp;omega,by simp;omega,fun t ht=>?_⟩
  simp only[kids_mkN,List.mem_append]at ht;rcases ht with ht|ht|ht
  ·exact hm t (List.mem_of_mem_take ht)
  ·exact k1 t ht
  ·exact hm t (List.mem_of_mem_drop ht)
 ·exact⟨by simpa using h1,by simpa using h2,hm⟩
theorem delN_ok:∀{h:Nat} {t u:NT h} {k:SpotM},OkN p h t->delN h t k=some u->OkN p h u
 | 0,t,u,k,ho,hd=>by
  unfold delN at hd;split at hd
  ·cases hd;refine⟨by have:=ho.1;simp;omega,fun x hx=>?_⟩
   rcases List.mem_append.1 hx with e|e
   ·exact ho.2 x (List.mem_of_mem_take e)
   ·exact ho.2 x (List.mem_of_mem_drop e)
  ·cases hd
 | h+1,t,u,k,ho,hd=>by
  unfold delN at hd;split at hd
  ·rename_i w hw;obtain⟨hi,he⟩:=List.getElem?_eq_some_iff.1 hw;obtain⟨c,hc,rfl⟩:=Option.map_eq_some_iff.1 hd;exact mendN_ok ho.1 ho.2.1 ho.2.2 hi (delN_ok (ho.2.2 w (by rw[<-he];exact List.getElem_mem hi)) hc)
  ·cases hd
theorem topN_ok:∀{h:Nat} {t:NT h},OkN p h t->OkN p (topN h t).1 (topN h t).2
 | 0,_,ho=>ho
 | h+1,t,ho=>by
  match hk:kids t with
  | [u]=>
   have e:topN (h+1) t=topN h u:=by simp only[topN,hk]
   rw[e];exact topN_ok (ho.2.2 u (by rw[hk];simp))
  | []=>
   have e:topN (h+1) t=⟨h+1,t⟩:=by simp only[topN,hk]
   rw[e];exact ho
  | a::b::r=>
   have e:topN (h+1) t=⟨h+1,t⟩:=by simp only[topN,hk]
   rw[e];exact ho
end
end Go.Zz
