import Derived.Test.YtnghaapdoanabaaGreatDoorWI
set_option linter.all false
set_option maxRecDepth 20000
set_option linter.all false
namespace Go.Zz
open Go
variable {X : Y0}
def sp0:A0t:=⟨0,0,0,0⟩
def ord(a b:A0t):Int:=
 if cmp3 a.br b.br≠0 then cmp3 a.br b.br else if cmp3 a.vol b.vol≠0 then cmp3 a.vol b.vol else if cmp3 a.blk b.blk≠0 then cmp3 a.blk b.blk else cmp3 a.num b.num
theorem A62{a b:Int}:cmp3 a b=0↔a=b:=by unfold cmp3;split<;>(try split)<;>omega
theorem E3c{a b:A0t}:ord a b=0↔a=b:=by
 unfold ord;cases a;cases b;simp only[A0t.mk.injEq];split
 ·rename_i h;have h':=h;rw[ne_eq,A62]at h';exact⟨fun e=>absurd e h,fun e=>absurd e.1 h'⟩
 ·rename_i h;rw[ne_eq,Decidable.not_not,A62]at h;split
  ·rename_i g;have g':=g;rw[ne_eq,A62]at g';exact⟨fun e=>absurd e g,fun e=>absurd e.2.1 g'⟩
  ·rename_i g;rw[ne_eq,Decidable.not_not,A62]at g;split
   ·rename_i f;have f':=f;rw[ne_eq,A62]at f';exact⟨fun e=>absurd e f,fun e=>absurd e.2.2.1 f'⟩
   ·rename_i f;rw[ne_eq,Decidable.not_not,A62]at f;rw[A62];simp[h,g,f]
def A07:List A0t->A0t->Nat×Bool
 | [],_=>(0,false)
 | x::r,k=>if 0<=ord x k then(0,decide (ord x k=0))else((A07 r k).1+1,(A07 r k).2)
theorem B1q{k:A0t}:∀{l:List A0t},(A07 l k).1<=l.length
 | []=>by simp[A07]
 | x::r=>by unfold A07;split<;>simp;exact B1q
theorem C7r{k:A0t}:∀{l:List A0t} {i:Nat} (hi:i<l.length),(∀j (hj:j<l.length),j<i->ord l[j] k<0)->0<=ord l[i] k->A07 l k=(i,decide (ord l[i] k=0))
 | x::r,0,_,_,h=>by simp only[List.getElem_cons_zero]at h;simp[A07,h]
 | x::r,i+1,hi,h1,h2=>by
  have h0:=h1 0 (by simp) (by omega)
  simp only[List.getElem_cons_zero]at h0;have:=C7r (k:=k) (l:=r) (i:=i) (by simpa using hi) (fun j hj hji=>by have:=h1 (j+1) (by simpa using hj) (by omega);rwa [List.getElem_cons_succ]at this) (by rwa [List.getElem_cons_succ]at h2)
  simp only[A07,if_neg (show ¬0<=ord x k by omega),this,List.getElem_cons_succ]
theorem B8d{k:A0t}:∀{l:List A0t},(∀j (hj:j<l.length),ord l[j] k<0)->A07 l k=(l.length,false)
 | [],_=>rfl
 | x::r,h=>by
  have h0:=h 0 (by simp)
  simp only[List.getElem_cons_zero]at h0;simp[A07,show ¬0<=ord x k by omega,B8d (k:=k) (l:=r) (fun j hj=>by have:=h (j+1) (by simpa using hj);rwa [List.getElem_cons_succ]at this)]
theorem B10{k:A0t}:∀{l:List A0t},(A07 l k).2=true->∃h:(A07 l k).1<l.length,l[(A07 l k).1]=k
 | [],h=>by simp[A07]at h
 | x::r,h=>by
  unfold A07 at h ⊢;split at h
  ·rename_i h0;simp only[decide_eq_true_eq,E3c]at h;simp only[if_pos h0];exact⟨by simp,by simpa using h⟩
  ·rename_i h0;obtain⟨h1,h2⟩:=B10 h;simp only[if_neg h0];exact⟨by simpa using h1,by simpa using h2⟩
def fIn(l:List A0t)(k:A0t):Nat×Bool:=match(List.range l.length).reverse.find? (fun i=>decide (ord (l.getD i sp0) k<=0))with
 | some i=>(i,decide (ord (l.getD i sp0) k=0))
 | none=>(0,false)
theorem C53{l:List A0t}{k:A0t}(h:0<l.length):(fIn l k).1<l.length:=by
 unfold fIn;split
 ·rename_i i hi;have:=List.mem_of_find?_eq_some hi;simpa using this
 ·exact h
theorem E31{n i:Nat}{p:Nat->Bool}(hi:i<n)(h1:p i=true)(h2:∀j,i<j->j<n->p j=false):(List.range n).reverse.find? p=some i:=by
 induction n with
 | zero=>omega
 | succ n ih=>
  rw[List.range_succ,List.reverse_append,List.reverse_singleton,List.singleton_append,List.find?_cons];by_cases e:i=n
  ·subst e;rw[h1]
  ·rw[h2 n (by omega) (by omega)]
   exact ih (by omega) (fun j a b=>h2 j a (by omega))
theorem G7w{l:List A0t}{k:A0t}{i:Nat}(hi:i<l.length)(h1:ord l[i] k<=0)(h2:∀j (hj:j<l.length),i<j->0<ord l[j] k):fIn l k=(i,decide (ord l[i] k=0)):=by
 have e:l.getD i sp0=l[i]:=by simp[List.getD_eq_getElem?_getD,hi]
 unfold fIn;rw[E31 hi (by rw[e];simpa using h1) (fun j a b=>by
  have:=h2 j b a;have e:l.getD j sp0=l[j]:=by simp[List.getD_eq_getElem?_getD,b]
  rw[e];simp;omega)]
 simp only[e]
theorem E2x{l:List A0t}{k:A0t}(h:∀j (hj:j<l.length),0<ord l[j] k):fIn l k=(0,false):=by
 unfold fIn;rw[List.find?_eq_none.2 (fun j hj=>by
  have hj:j<l.length:=by simpa using hj
  have:=h j hj;have e:l.getD j sp0=l[j]:=by simp[List.getD_eq_getElem?_getD,hj]
  rw[e];simp;omega)]
def NT:Nat->Type
 | 0=>List A0t
 | h+1=>List (NT h)
def A0m(t:NT 0):List A0t:=t
def mk0(l:List A0t):NT 0:=l
def kids{h:Nat}(t:NT (h+1)):List (NT h):=t
def mkN{h:Nat}(l:List (NT h)):NT (h+1):=l
@[simp]theorem B16(l:List A0t):A0m (mk0 l)=l:=rfl
@[simp]theorem C6o{h:Nat}(l:List (NT h)):kids (mkN l)=l:=rfl
@[simp]theorem G7f(t:NT 0):mk0 (A0m t)=t:=rfl
@[simp]theorem mkN_kids{h:Nat}(t:NT (h+1)):mkN (kids t)=t:=rfl
def A0y:(h:Nat)->NT h->List A0t
 | 0,t=>A0m t
 | h+1,t=>(kids t).map fun u=>(A0y h u).headD sp0
def A1x(h:Nat)(t:NT h):A0t:=(A0y h t).headD sp0
def lenN:(h:Nat)->NT h->Nat
 | 0,t=>(A0m t).length
 | _+1,t=>(kids t).length
theorem A4a:∀{h:Nat} {t:NT h},(A0y h t).length=lenN h t
 | 0,_=>rfl
 | _+1,_=>by simp only[A0y,lenN,List.length_map]
def spOk(x:A0t):Prop:=0<=x.br/\x.br<=100000/\0<=x.vol/\x.vol<=100000/\0<=x.blk/\x.blk<=100000/\0<=x.num/\x.num<=100000
theorem G8g:spOk sp0:=by simp[spOk,sp0]
def OkN(p:A0t->Prop):(h:Nat)->NT h->Prop
 | 0,t=>(A0m t).length<=4/\∀x∈A0m t,p x
 | h+1,t=>1<=(kids t).length/\(kids t).length<=4/\∀u∈kids t,OkN p h u
def A88:(h:Nat)->NT h->List A0t
 | 0,t=>A0m t
 | h+1,t=>(kids t).flatMap (A88 h)
def A35{α:Type}(l:List α):List (List α):=if l.length<=4 then [l]else [l.take ((l.length+1)/2),l.drop ((l.length+1)/2)]
def putN:(h:Nat)->NT h->A0t->List (NT h)
 | 0,t,k=>if(A07 (A0m t) k).2 then [t]else(A35 ((A0m t).take (A07 (A0m t) k).1++k::(A0m t).drop (A07 (A0m t) k).1)).map mk0
 | h+1,t,k=>match(kids t)[(fIn (A0y (h+1) t) k).1]? with
  | some u=>(A35 ((kids t).take (fIn (A0y (h+1) t) k).1++(putN h u k++(kids t).drop ((fIn (A0y (h+1) t) k).1+1)))).map mkN
  | none=>[t]
def B3y:(h:Nat)->NT h->NT h->List (NT h)
 | 0,a,b=>(A35 (A0m a++A0m b)).map mk0
 | _+1,a,b=>(A35 (kids a++kids b)).map mkN
def B4y(n i:Nat):Nat:=if i=n-1 then i-1 else i
def C5a(h:Nat)(l:List (NT h))(i:Nat)(c:NT h):List (NT h):=
 if lenN h c<2/\1<l.length then
  (l.set i c).take (B4y l.length i)++((match(l.set i c)[B4y l.length i]?,(l.set i c)[B4y l.length i+1]? with|some a,some b=>B3y h a b|_,_=>[])++(l.set i c).drop (B4y l.length i+2))
 else l.set i c
def delN:(h:Nat)->NT h->A0t->Option (NT h)
 | 0,t,k=>if(A07 (A0m t) k).2 then some (mk0 ((A0m t).take (A07 (A0m t) k).1++(A0m t).drop ((A07 (A0m t) k).1+1)))else none
 | h+1,t,k=>match(kids t)[(fIn (A0y (h+1) t) k).1]? with
  | some u=>(delN h u k).map fun c=>mkN (C5a h (kids t) (fIn (A0y (h+1) t) k).1 c)
  | none=>none
abbrev AN:=(h:Nat)×NT h
def topN:(h:Nat)->NT h->AN
 | 0,t=>⟨0,t⟩
 | h+1,t=>match kids t with
  | [u]=>topN h u
  | _=>⟨h+1,t⟩
theorem A8e{α:Type}{l:List α}(h:l.length<=8):∀x∈A35 l,x.length<=4:=by
 unfold A35;split
 ·intro x hx;simp at hx;subst hx;assumption
 ·intro x hx;simp at hx;rcases hx with rfl|rfl<;>simp<;>omega
theorem B4l{α:Type}{l:List α}(h0:0<l.length):∀x∈A35 l,1<=x.length:=by
 unfold A35;split
 ·intro x hx;simp at hx;subst hx;omega
 ·intro x hx;simp at hx;rcases hx with rfl|rfl<;>simp<;>omega
theorem A8i{α:Type}{l:List α}{x:List α}{a:α}(hx:x∈A35 l)(ha:a∈x):a∈l:=by
 unfold A35 at hx;split at hx
 ·simp at hx;subst hx;exact ha
 ·simp at hx;rcases hx with rfl|rfl
  ·exact List.mem_of_mem_take ha
  ·exact List.mem_of_mem_drop ha
theorem A8b{α:Type}{l:List α}:(A35 l).length=1\/(A35 l).length=2:=by
 unfold A35;split<;>simp
section
variable {p : A0t → Prop}
theorem OkN.len{h:Nat}{t:NT h}(ho:OkN p h t):lenN h t<=4:=by
 cases h with
 | zero=>exact ho.1
 | succ h=>exact ho.2.1
theorem OkN.mono{q:A0t->Prop}(hpq:∀x,p x->q x):∀{h:Nat} {t:NT h},OkN p h t->OkN q h t
 | 0,_,ho=>⟨ho.1,fun x hx=>hpq x (ho.2 x hx)⟩
 | _+1,_,ho=>⟨ho.1,ho.2.1,fun u hu=>OkN.mono hpq (ho.2.2 u hu)⟩
theorem OkN.keys(h0:p sp0):∀{h:Nat} {t:NT h},OkN p h t->∀x∈A0y h t,p x
 | 0,_,ho,x,hx=>ho.2 x hx
 | h+1,t,ho,x,hx=>by
  simp only[A0y,List.mem_map]at hx;obtain⟨u,hu,rfl⟩:=hx;have:=OkN.keys h0 (ho.2.2 u hu);cases hk:A0y h u with
  | nil=>exact h0
  | cons y r=>rw[hk]at this;exact this y (by simp)
theorem B1w:∀{h:Nat} {t:NT h} {k:A0t},(putN h t k).length=1\/(putN h t k).length=2
 | 0,t,k=>by
  unfold putN;split
  ·simp
  ·rw[List.length_map];exact A8b
 | h+1,t,k=>by
  unfold putN;split
  ·rw[List.length_map];exact A8b
  ·simp
theorem D38:∀{h:Nat} {t:NT h} {k:A0t},OkN p h t->p k->∀x∈putN h t k,OkN p h x
 | 0,t,k,ho,hk=>by
  unfold putN;split
  ·intro x hx;simp at hx;subst hx;exact ho
  ·intro x hx;obtain⟨l,hl,rfl⟩:=List.mem_map.1 hx;have h1:=ho.1;have h3:=B1q (l:=A0m t) (k:=k);refine⟨A8e (by simp;omega) l hl,fun a ha=>?_⟩
   have:=A8i hl ha;simp only[List.mem_append,List.mem_cons]at this;rcases this with h|rfl|h
   ·exact ho.2 a (List.mem_of_mem_take h)
   ·exact hk
   ·exact ho.2 a (List.mem_of_mem_drop h)
 | h+1,t,k,ho,hk=>by
  unfold putN;split
  ·rename_i u hu;intro x hx;obtain⟨l,hl,rfl⟩:=List.mem_map.1 hx;obtain⟨hi,he⟩:=List.getElem?_eq_some_iff.1 hu;obtain⟨_,h1,hok⟩:=ho;have htm:u∈kids t:=by rw[<-he];exact List.getElem_mem hi
   have h2:=B1w (h:=h) (t:=u) (k:=k);have hp:=D38 (k:=k) (hok u htm) hk;refine⟨B4l (by simp;omega) l hl,A8e (by simp;omega) l hl,fun a ha=>?_⟩
   have:=A8i hl ha;simp only[List.mem_append]at this;rcases this with h|h|h
   ·exact hok a (List.mem_of_mem_take h)
   ·exact hp a h
   ·exact hok a (List.mem_of_mem_drop h)
  ·intro x hx;simp at hx;subst hx;exact ho
theorem C6p:∀{h:Nat} {a b:NT h},OkN p h a->OkN p h b->(∀x∈B3y h a b,OkN p h x)/\((B3y h a b).length=1\/(B3y h a b).length=2)
 | 0,a,b,ha,hb=>by
  unfold B3y;refine⟨fun x hx=>?_,by rw[List.length_map];exact A8b⟩
  obtain⟨l,hl,rfl⟩:=List.mem_map.1 hx;obtain⟨h1,g1⟩:=ha;obtain⟨h2,g2⟩:=hb;refine⟨A8e (by simp;omega) l hl,fun s hs=>?_⟩
  rcases List.mem_append.1 (A8i hl hs)with e|e
  ·exact g1 s e
  ·exact g2 s e
 | h+1,a,b,ha,hb=>by
  unfold B3y;refine⟨fun x hx=>?_,by rw[List.length_map];exact A8b⟩
  obtain⟨l,hl,rfl⟩:=List.mem_map.1 hx;obtain⟨h0,h1,g1⟩:=ha;obtain⟨_,h2,g2⟩:=hb;refine⟨B4l (by simp;omega) l hl,A8e (by simp;omega) l hl,fun s hs=>?_⟩
  rcases List.mem_append.1 (A8i hl hs)with e|e
  ·exact g1 s e
  ·exact g2 s e
theorem C5x{n i:Nat}(hi:i<n)(hn:1<n):B4y n i+1<n:=by unfold B4y;split<;>omega
theorem E45{h:Nat}{l:List (NT h)}{i:Nat}{c:NT h}(h1:1<=l.length)(h2:l.length<=4)(h3:∀t∈l,OkN p h t)(hi:i<l.length)(hc:OkN p h c):OkN p (h+1) (mkN (C5a h l i c)):=by
 have hm:∀t∈l.set i c,OkN p h t:=fun t ht=>by
  rcases List.mem_or_eq_of_mem_set ht with e|e
  ·exact h3 t e
  ·subst e;exact hc
 unfold C5a;split
 ·rename_i hg;obtain⟨g1,g2⟩:=hg;have hjl:=C5x hi g2;generalize B4y l.length i=j at hjl;have hl1:j<(l.set i c).length:=by simp;omega
  have hl2:j+1<(l.set i c).length:=by simp;omega
  rw[List.getElem?_eq_getElem hl1,List.getElem?_eq_getElem hl2];simp only;obtain⟨k1,k2⟩:=C6p (hm _ (List.getElem_mem hl1)) (hm _ (List.getElem_mem hl2));refine⟨by simp;omega,by simp;omega,fun t ht=>?_⟩
  simp only[C6o,List.mem_append]at ht;rcases ht with ht|ht|ht
  ·exact hm t (List.mem_of_mem_take ht)
  ·exact k1 t ht
  ·exact hm t (List.mem_of_mem_drop ht)
 ·exact⟨by simpa using h1,by simpa using h2,hm⟩
theorem B8e:∀{h:Nat} {t u:NT h} {k:A0t},OkN p h t->delN h t k=some u->OkN p h u
 | 0,t,u,k,ho,hd=>by
  unfold delN at hd;split at hd
  ·cases hd;refine⟨by have:=ho.1;simp;omega,fun x hx=>?_⟩
   rcases List.mem_append.1 hx with e|e
   ·exact ho.2 x (List.mem_of_mem_take e)
   ·exact ho.2 x (List.mem_of_mem_drop e)
  ·cases hd
 | h+1,t,u,k,ho,hd=>by
  unfold delN at hd;split at hd
  ·rename_i w hw;obtain⟨hi,he⟩:=List.getElem?_eq_some_iff.1 hw;obtain⟨c,hc,rfl⟩:=Option.map_eq_some_iff.1 hd;exact E45 ho.1 ho.2.1 ho.2.2 hi (B8e (ho.2.2 w (by rw[<-he];exact List.getElem_mem hi)) hc)
  ·cases hd
theorem D7v:∀{h:Nat} {t:NT h},OkN p h t->OkN p (topN h t).1 (topN h t).2
 | 0,_,ho=>ho
 | h+1,t,ho=>by
  match hk:kids t with
  | [u]=>
   have e:topN (h+1) t=topN h u:=by simp only[topN,hk]
   rw[e];exact D7v (ho.2.2 u (by rw[hk];simp))
  | []=>
   have e:topN (h+1) t=⟨h+1,t⟩:=by simp only[topN,hk]
   rw[e];exact ho
  | a::b::r=>
   have e:topN (h+1) t=⟨h+1,t⟩:=by simp only[topN,hk]
   rw[e];exact ho
end
end Go.Zz
