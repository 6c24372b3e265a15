import Derived.Test.YtnghaapdoanabaaGreatDoorL
set_option linter.all false
namespace Go.Zz
open Go
variable {P : Program} {G : Nat} {F : Fence} {C : A33} {L : List Oper} {p : Plan} {A : Fr}
def E2d(P:Program)(C:A33)(L:List Oper)(p:Plan)(A:Fr)(K:(Nat->Value)->St->Prop):List Nat->Nat->(Nat->Value)->St->Prop
 | [],_,vals,s=>K vals s
 | e::es,g,vals,s=>match L[e]? with
   | some o=>D4v o.guard (A2t vals o.guard) (opW P C o.op (opdD L vals A e)) (fun v s'=>B78 P C L p A K es (g+1) (setV vals e v) s') s
   | none=>False
theorem D4r(K:(Nat->Value)->St->Prop)(l:List Nat)(g:Nat)(vals:Nat->Value)(s:St):B78 P C L p A K l g vals s=
  C95 P L A (B6j P L A (fun vals=>mksD P L A (alsD P L A (E2d P C L p A K l g) (A7s L p g) vals s) vals (C6b L p g)) s (B4t L p g) vals) vals s (B52 L p g):=by
 cases l<;>rfl
def DetF(L:List Oper)(vals:Nat->Value)(i:Nat):Prop:=∀o,L[i]?=some o->A2t vals o.guard≠none/\(A2t vals o.guard=some false->vals i=.chan none)
def DetT(P:Program)(L:List Oper)(A:Fr)(vals:Nat->Value)(s:St)(i:Nat):Prop:=∀o,L[i]?=some o->A2t vals o.guard=some true->valD P o (opdD L vals A i) s=some (vals i)
theorem B3q{i d j:Nat}(hd:d∈B3p L i)(hj:F6x L i d=some j):j∈srcs L i:=
 List.mem_append_left _ (List.mem_filterMap.2 ⟨d,hd,hj⟩)
theorem B6n{i j:Nat}{o:Oper}{b:Bool}(ho:L[i]?=some o)(hg:o.guard=some (j,b)):j∈srcs L i:=by
 unfold srcs;rw[ho];simp[hg]
theorem Ok.srcs_lt{n:Nat}(ok:Ok P L p n){i j:Nat}(h:j∈srcs L i):j<i:=by
 unfold srcs at h;rcases List.mem_append.1 h with h|h
 ·obtain⟨d,hd,hj⟩:=List.mem_filterMap.1 h;exact(A7v hj).1
 ·cases ho:L[i]? with
  | none=>rw[ho]at h;simp at h
  | some o=>
   simp only[ho]at h;cases hg:o.guard with
   | none=>rw[hg]at h;simp at h
   | some jb=>
    obtain⟨k,b⟩:=jb;rw[hg]at h;simp only[List.mem_singleton]at h;subst h;exact(ok.grd i o _ b ho hg).1
theorem A6n{vals vals':Nat->Value}{i:Nat}(h:∀j∈srcs L i,vals' j=vals j):opdD L vals' A i=opdD L vals A i:=by
 funext x;cases x<;>try rfl
 rename_i d;simp only[opdD];split
 ·rename_i hd;split
  ·rename_i j hj;exact h j (B3q (by simpa using hd) hj)
  ·rfl
 ·rfl
theorem A6i{vals vals':Nat->Value}{i:Nat}{o:Oper}(ho:L[i]?=some o)(h:∀j∈srcs L i,vals' j=vals j):A2t vals' o.guard=A2t vals o.guard:=by
 cases hg:o.guard with
 | none=>rfl
 | some jb=>
  obtain⟨j,b⟩:=jb;simp only[A2t,h j (B6n ho hg)]
theorem DetF.congr{vals vals':Nat->Value}{i:Nat}(hs:∀j∈srcs L i,vals' j=vals j)(hi:vals' i=vals i)(h:DetF L vals i):DetF L vals' i:=by
 intro o ho;rw[A6i ho hs,hi];exact h o ho
theorem DetT.congr{vals vals':Nat->Value}{s:St}{i:Nat}(hs:∀j∈srcs L i,vals' j=vals j)(hi:vals' i=vals i)(h:DetT P L A vals s i):DetT P L A vals' s i:=by
 intro o ho;rw[A6i ho hs,hi,A6n hs];exact h o ho
theorem D3z{n:Nat}(ok:Ok P L p n){K:(Nat->Value)->Prop}{s:St}:∀(l:List Nat) (vals:Nat->Value),l.Pairwise (·<·)->B6j P L A K s l vals->
  ∃vals',K vals'/\(∀j,j∉l->vals' j=vals j)/\∀i∈l,DetF L vals' i/\DetT P L A vals' s i:=by
 intro l;induction l with
 | nil=>intro vals _ h;exact⟨vals,h,fun _ _=>rfl,fun i hi=>by simp at hi⟩
 | cons i r ih=>
  intro vals hp h;obtain⟨hp1,hp2⟩:=List.pairwise_cons.1 hp;rw[D1s]at h;have go:∀(o:Oper) (v:Value),L[i]?=some o->B6j P L A K s r (setV vals i v)->A2t vals o.guard≠none->(A2t vals o.guard=some false->v=.chan none)->
    (A2t vals o.guard=some true->valD P o (opdD L vals A i) s=some v)->
    ∃vals',K vals'/\(∀j,j∉i::r->vals' j=vals j)/\∀k∈i::r,DetF L vals' k/\DetT P L A vals' s k:=by
   intro o v ho hr hw hf ht;obtain⟨vals',h1,h3,h4⟩:=ih (setV vals i v) hp2 hr;have hni:i∉r:=fun hi=>by have:=hp1 i hi;omega
   have hself:vals' i=v:=by rw[h3 i hni,A9c]
   have hsr:∀j∈srcs L i,vals' j=vals j:=fun j hj=>by
    have hlt:=ok.srcs_lt hj;rw[h3 j (fun hj'=>by have:=hp1 j hj';omega),A4t _ (by omega)]
   refine⟨vals',h1,fun j hj=>?_,fun k hk=>?_⟩
   ·simp only[List.mem_cons,not_or]at hj;rw[h3 j hj.2,A4t _ (Ne.symm hj.1)]
   ·rcases List.mem_cons.1 hk with rfl|hk
    ·refine⟨fun o' ho'=>?_,fun o' ho' hw'=>?_⟩
     ·rw[ho]at ho';cases ho';rw[A6i ho hsr,hself];exact⟨hw,hf⟩
     ·rw[ho]at ho';cases ho';rw[A6i ho hsr]at hw';rw[A6n hsr,hself];exact ht hw'
    ·exact h4 k hk
  split at h
  ·rename_i o ho;unfold optW at h;split at h
   ·rename_i v hv;cases hw:A2t vals o.guard with
    | none=>rw[hw]at hv;cases hv
    | some b=>
     rw[hw]at hv;cases b with
     | true=>exact go o v ho h (by simp[hw]) (by simp[hw]) (fun _=>hv)
     | false=>cases hv;exact go o (.chan none) ho h (by simp[hw]) (fun _=>rfl) (by simp[hw])
   ·exact h.elim
  ·exact h.elim
theorem B5r{K:Prop}{vals:Nat->Value}{s:St}:∀(l:List Nat),C95 P L A K vals s l->
  K/\∀i∈l,∀o,L[i]?=some o->A2t vals o.guard=some true->C9q P o.op (opdD L vals A i) s=some (vals i)
 | [],h=>⟨h,fun i hi=>by simp at hi⟩
 | i::r,h=>by
  simp only[C95]at h;split at h
  ·rename_i o ho;unfold chkW at h;split at h
   ·rename_i hw;obtain⟨h1,h2⟩:=B5r r h.2;refine⟨h1,fun k hk o' ho' hw'=>?_⟩;rcases List.mem_cons.1 hk with rfl|hk
    ·rw[ho]at ho';cases ho';exact h.1
    ·exact h2 k hk o' ho' hw'
   ·rename_i hw;obtain⟨h1,h2⟩:=B5r r h;refine⟨h1,fun k hk o' ho' hw'=>?_⟩;rcases List.mem_cons.1 hk with rfl|hk
    ·rw[ho]at ho';cases ho';rw[hw]at hw';cases hw'
    ·exact h2 k hk o' ho' hw'
   ·exact h.elim
  ·exact h.elim
structure Abs0(P:Program)(L:List Oper)(p:Plan)(A:Fr)(g:Nat)(vals:Nat->Value):Prop where
 f:∀i,i<L.length->isK .e p L i=false->isK .a p L i=false->p.av.getD i 0<g->DetF L vals i
 t:∀i,isK .p p L i=true->p.av.getD i 0<g->∀s,DetT P L A vals s i
 m:∀i,isK .a p L i=true->p.ear.getD i 0<g->∀o,L[i]?=some o->(newA P o.op (opdD L vals A i)).isSome=true
theorem A8f{k:Kind}{i:Nat}{o:Oper}(ho:L[i]?=some o):isK k p L i=(A8l p i o==k):=by simp[isK,ho]
theorem B13{o:Oper}{i:Nat}:(A8l p i o=.p->cls o.op=.p)/\(A8l p i o=.r->cls o.op=.r):=by
 unfold A8l;constructor<;>(intro h;split at h<;>first|cases h|(split at h<;>first|cases h|(split at h<;>first|assumption|cases h)))
theorem C73{K:Prop}{vals:Nat->Value}:∀(l:List Nat),mksD P L A K vals l->K/\∀i∈l,∀o,L[i]?=some o->(newA P o.op (opdD L vals A i)).isSome=true
 | [],h=>⟨h,fun i hi=>by simp at hi⟩
 | i::r,h=>by
  simp only[mksD]at h;split at h
  ·rename_i o ho;unfold mkW at h;split at h
   ·rename_i x hx;obtain⟨h1,h2⟩:=C73 r h;refine⟨h1,fun k hk o' ho'=>?_⟩;rcases List.mem_cons.1 hk with rfl|hk
    ·rw[ho]at ho';cases ho';rw[hx];rfl
    ·exact h2 k hk o' ho'
   ·exact h.elim
  ·exact h.elim
theorem D5f{i:Nat}(hi:i<L.length)(he:isK .e p L i=false)(ha:isK .a p L i=false):isK .p p L i=true\/isK .r p L i=true:=by
 have ho:=List.getElem?_eq_getElem hi;rw[A8f ho]at *;rw[A8f ho];cases hk:A8l p i L[i]<;>simp[hk]at he ha ⊢
theorem A09{k l:Kind}{i:Nat}(h:isK k p L i=true)(hkl:k≠l):isK l p L i=false:=by
 obtain⟨o,ho⟩:∃o,L[i]?=some o:=⟨_,List.getElem?_eq_getElem (A6e h)⟩;rw[A8f ho]at *;have:A8l p i o=k:=by simpa using h
 rw[this];cases k<;>cases l<;>first|rfl|exact absurd rfl hkl
theorem DetT.any{vals:Nat->Value}{s:St}{i:Nat}(hp:isK .p p L i=true)(h:DetT P L A vals s i)(s':St):DetT P L A vals s' i:=by
 intro o ho hw;have:=h o ho hw;rw[A8f ho]at hp;have hk:=B13.1 (show A8l p i o=.p by simpa using hp)
 simp only[valD,hk]at this ⊢;exact this
theorem enter{n:Nat}(ok:Ok P L p n){K:(Nat->Value)->St->Prop}{l:List Nat}{g:Nat}{vals:Nat->Value}{s:St}(h0:Abs0 P L p A g vals)
  (h:B78 P C L p A K l g vals s):∃vals',alsD P L A (E2d P C L p A K l g) (A7s L p g) vals' s/\Abs0 P L p A (g+1) vals'/\
   (∀i,isK .r p L i=true->p.av.getD i 0<=g->g<=p.hi.getD i 0->DetT P L A vals' s i)/\
   ∀j,¬((isK .p p L j=true\/isK .r p L j=true)/\p.av.getD j 0=g)->vals' j=vals j:=by
 rw[D4r]at h;obtain⟨h,hc⟩:=B5r _ h;have hmem:∀i,i∈B4t L p g↔((isK .p p L i=true\/isK .r p L i=true)/\p.av.getD i 0=g):=by
  intro i;unfold B4t;rw[List.mem_filter,List.mem_range];simp only[Bool.and_eq_true,Bool.or_eq_true,beq_iff_eq];constructor
  ·exact fun h=>h.2
  ·exact fun h=>⟨h.1.elim A6e A6e,h⟩
 obtain⟨vals',h1,h3,h4⟩:=D3z ok _ vals (List.Pairwise.filter _ List.pairwise_lt_range) h;obtain⟨h1,hmk⟩:=C73 _ h1;have h5:∀j,¬((isK .p p L j=true\/isK .r p L j=true)/\p.av.getD j 0=g)->vals' j=vals j:=fun j hj=>h3 j (fun hj'=>hj ((hmem j).1 hj'));have hsr:∀i,i<L.length->isK .e p L i=false->isK .a p L i=false->p.av.getD i 0<g->(∀j∈srcs L i,vals' j=vals j)/\vals' i=vals i:=by
  intro i hi he ha hg;refine⟨fun j hj=>h5 j ?_,h5 i (fun h=>by omega)⟩
  have:=ok.avs i hi he ha j hj;split at this
  ·rename_i hje;intro h;rcases h.1 with h|h
   ·rw[A09 hje (by simp)]at h;cases h
   ·rw[A09 hje (by simp)]at h;cases h
  ·intro h;omega
 refine⟨vals',h1,⟨fun i hi he ha hg=>?_,fun i hp hg s'=>?_,fun i ha hg o ho=>?_⟩,fun i hr hg hh=>?_,h5⟩
 ·by_cases hg':p.av.getD i 0=g
  ·exact(h4 i ((hmem i).2 ⟨D5f hi he ha,hg'⟩)).1
  ·obtain⟨a,b⟩:=hsr i hi he ha (by omega)
   exact(h0.f i hi he ha (by omega)).congr a b
 ·by_cases hg':p.av.getD i 0=g
  ·exact(h4 i ((hmem i).2 ⟨.inl hp,hg'⟩)).2.any hp s'
  ·obtain⟨a,b⟩:=hsr i (A6e hp) (A09 hp (by simp)) (A09 hp (by simp)) (by omega)
   exact(h0.t i hp (by omega) s').congr a b
 ·by_cases hg':p.ear.getD i 0=g
  ·exact hmk i (by
    unfold C6b;rw[List.mem_filter,List.mem_range];exact⟨A6e ha,by rw[ha,Bool.true_and];simpa using hg'⟩) o ho
  ·have hs:∀j∈srcs L i,vals' j=vals j:=fun j hj=>h5 j (by
    have:=ok.eas i (A6e ha) ha j hj;split at this
    ·rename_i hje;intro h;rcases h.1 with h|h
     ·rw[A09 hje (by simp)]at h;cases h
     ·rw[A09 hje (by simp)]at h;cases h
    ·intro h;omega)
   rw[A6n hs];exact h0.m i ha (by omega) o ho
 ·by_cases hg':p.av.getD i 0=g
  ·exact(h4 i ((hmem i).2 ⟨.inr hr,hg'⟩)).2
  ·obtain⟨a,b⟩:=hsr i (A6e hr) (A09 hr (by simp)) (A09 hr (by simp)) (by omega)
   refine DetT.congr a b (fun o ho hw=>?_);have hm:i∈B52 L p g:=by
    unfold B52;rw[List.mem_filter,List.mem_range];have h1:p.av.getD i 0<g:=by omega
    exact⟨A6e hr,by rw[hr,decide_eq_true h1,decide_eq_true hh];rfl⟩
   have:=hc i hm o ho hw;rw[A8f ho]at hr;have hk:=B13.2 (show A8l p i o=.r by simpa using hr)
   simpa only[valD,hk]using this
theorem B12{l:List Nat}{j m n:Nat}(h:j∈l.take m)(hmn:m<=n):j∈l.take n:=by
 have:l.take m=(l.take n).take m:=by rw[List.take_take,Nat.min_eq_left hmn]
 rw[this]at h;exact List.mem_of_mem_take h
theorem Abs0.congr{n:Nat}(ok:Ok P L p n){g:Nat}{vals vals':Nat->Value}(h:Abs0 P L p A g vals)
  (hv:∀j,isK .a p L j=false->(isK .e p L j=true->j∈p.es.take (g-1))->vals' j=vals j):Abs0 P L p A g vals':=by
 have hsr:∀i,i<L.length->isK .e p L i=false->isK .a p L i=false->p.av.getD i 0<g->(∀j∈srcs L i,vals' j=vals j)/\vals' i=vals i:=by
  intro i hi he ha hg;refine⟨fun j hj=>?_,hv i ha (fun h=>by rw[he]at h;cases h)⟩
  have:=ok.avs i hi he ha j hj;split at this
  ·rename_i hje;exact hv j (A09 hje (by simp)) (fun _=>B12 this (by omega))
  ·rename_i hje;exact hv j this.1 (fun h=>absurd h hje)
 refine⟨fun i hi he ha hg=>?_,fun i hp hg s'=>?_,fun i ha hg o ho=>?_⟩
 ·obtain⟨a,b⟩:=hsr i hi he ha hg;exact(h.f i hi he ha hg).congr a b
 ·obtain⟨a,b⟩:=hsr i (A6e hp) (A09 hp (by simp)) (A09 hp (by simp)) hg
  exact(h.t i hp hg s').congr a b
 ·rw[A6n (vals:=vals) (vals':=vals') (fun j hj=>?_)]
  ·exact h.m i ha hg o ho
  ·have:=ok.eas i (A6e ha) ha j hj;split at this
   ·rename_i hje;exact hv j (A09 hje (by simp)) (fun _=>B12 this (by omega))
   ·rename_i hje;exact hv j this.1 (fun h=>absurd h hje)
end Go.Zz
namespace Go.Zz
open Go
variable {P : Program} {G : Nat} {F : Fence} {C : A33} {L : List Oper} {p : Plan} {A : Fr}
def upd(cv:Nat->Value)(i:Nat)(v:Value):Nat->Value:=fun j=>if j=i then v else cv j
structure Frm(L:List Oper)(S:Nat->Prop)(cv:Nat->Value)(a0 a:Act):Prop where
 sz:a.tmps.size=a0.tmps.size
 defers:a.defers=a0.defers
 w:∀d j,d<a.tmps.size->S j->A34 L j=some d->(∀k,S k->A34 L k=some d->k<=j)->a.tmps.getD d undef=cv j
 o:∀d,(∀j,S j->A34 L j≠some d)->a.tmps.getD d undef=a0.tmps.getD d undef
theorem B3r.now{S:Nat->Prop}{i j:Nat}{o:Oper}(h:B3r L i j)(hcl:A95 L S)(ho:L[i]?=some o)(hr:∀e∈o.after,Region.binds .any e=true->S e.on)(hne:j≠i):S j:=by
 have:=h (fun k=>S k\/k=i) (fun k o' ho' hk e he hb=>by
  rcases hk with hk|rfl
  ·exact .inl (hcl k o' ho' hk e he hb)
  ·rw[ho]at ho';cases ho';exact .inl (hr e he hb)) (.inr rfl)
 exact this.resolve_right hne
theorem A95.add{S:Nat->Prop}{i:Nat}{o:Oper}(hcl:A95 L S)(ho:L[i]?=some o)(hr:∀e∈o.after,Region.binds .any e=true->S e.on):A95 L (fun k=>S k\/k=i):=fun k o' ho' hk e he hb=>by
 rcases hk with hk|rfl
 ·exact .inl (hcl k o' ho' hk e he hb)
 ·rw[ho]at ho';cases ho';exact .inl (hr e he hb)
theorem Frm.put{n:Nat}(ok:Ok P L p n){S:Nat->Prop}{cv:Nat->Value}{a0 a:Act}(h:Frm L S cv a0 a)(hcl:A95 L S)(hb:∀j,S j->j<L.length){i:Nat}{o:Oper}(ho:L[i]?=some o)(hn:¬S i)
  (v:Value):Frm L (fun k=>S k\/k=i) (upd cv i v) a0 (a.put o.dst v):=by
 have hlt:=(List.getElem?_eq_some_iff.1 ho).1;have hd:A34 L i=o.dst:=by simp[A34,ho]
 have hsz:(a.put o.dst v).tmps.size=a.tmps.size:=by cases o.dst<;>simp[Act.put]
 have later:∀y d,S y->A34 L y=some d->A34 L i=some d->y<i:=by
  intro y d hy hyd hid;rcases Nat.lt_trichotomy y i with h|h|h
  ·exact h
  ·subst h;exact absurd hy hn
  ·exact absurd (ok.waw y i d (hb y hy) h hid hyd S hcl hy) hn
 refine⟨hsz.trans h.sz,by rw[<-h.defers];cases o.dst<;>rfl,?_,?_⟩
 ·intro d j hdl hj hjd hmax;rw[hsz]at hdl;by_cases hid:A34 L i=some d
  ·have hji:j=i:=by
    rcases hj with hj|hj
    ·have:=hmax i (.inr rfl) hid;have:=later j d hj hjd hid;omega
    ·exact hj
   subst hji;rw[hd]at hjd;simp[Act.put,hjd,upd,hdl]
  ·have hji:j≠i:=fun e=>by subst e;exact hid hjd
   have hj':S j:=hj.resolve_right hji;have:=h.w d j hdl hj' hjd (fun k hk hkd=>hmax k (.inl hk) hkd);simp only[upd,if_neg hji];rw[<-this];cases hod:o.dst with
   | none=>rfl
   | some d'=>
    have hne:d'≠d:=fun e=>hid (by rw[hd,hod,e])
    simp[Act.put,Array.getElem?_setIfInBounds_ne hne]
 ·intro d hd0;have:=h.o d (fun j hj=>hd0 j (.inl hj));rw[<-this];cases hod:o.dst with
  | none=>rfl
  | some d'=>
   have hne:d'≠d:=fun e=>hd0 i (.inr rfl) (by rw[hd,hod,e])
   simp[Act.put,Array.getElem?_setIfInBounds_ne hne]
def Rec(P:Program)(L:List Oper)(A:Fr)(vals:Nat->Value)(s:St)(J:Nat->Plc)(w0 w:World)(i:Nat)(y:Value):Prop:=∃o x nk ob blk,L[i]?=some o/\newA P o.op (opdD L vals A i)=some (x,nk)/\
 y=nk.val blk/\w.heap[blk]?=some ob/\NewR s.next J x ob/\(∀k,¬A72 s J blk k)/\w0.heap.size<=blk/\NewV.Ok nk
def D2j:Value->Nat
 | .pointer (some a)=>a.block
 | .slice (some a) _ _=>a.block
 | .map (some r)=>r
 | _=>0
@[simp]theorem B1c{nk:NewV}{b:Nat}:D2j (nk.val b)=b:=by cases nk<;>rfl
structure Rel(P:Program)(G N:Nat)(L:List Oper)(A:Fr)(s0:St)(J0:Nat->Plc)(w0:World)(a0:Act)(S T:Nat->Prop)(vals:Nat->Value)(s:St)(J:Nat->Plc)(w:World)(cv:Nat->Value):Prop where
 sim:Sim G s J w
 step:Step s0 J0 w0 s J w
 init:VRf N s.next J A a0.tmps
 rel:∀i,S i->¬T i->VR s.next J false (vals i) (cv i)
 recs:∀i,S i->T i->Rec P L A vals s J w0 w i (cv i)
 sep:∀i j,i≠j->S i->S j->T i->T j->D2j (cv i)≠D2j (cv j)
theorem B53{N:Nat}{K:(Nat->Value)->St->Prop}{s0:St}{J0:Nat->Plc}{w0 w:World}{a0:Act}{S:Nat->Prop}{cv:Nat->Value}:∀(l:List Nat) (T:Nat->Prop) (vals:Nat->Value) (s:St) (J:Nat->Plc),
  Rel P G N L A s0 J0 w0 a0 S T vals s J w cv->alsD P L A K l vals s->(∀i∈l,S i/\T i/\i<L.length)->l.Nodup->(∀i,T i->∀j∈srcs L i,¬T j/\j∉l)->
  ∃vals' s' J',K vals' s'/\Rel P G N L A s0 J0 w0 a0 S (fun i=>T i/\i∉l) vals' s' J' w cv/\∀j,j∉l->vals' j=vals j:=by
 intro l;induction l with
 | nil=>intro T vals s J h hk _ _ _;exact⟨vals,s,J,hk,by simpa using h,fun _ _=>rfl⟩
 | cons i r ih=>
  intro T vals s J h hk hl hnd hsrc;obtain⟨hir,hnd⟩:=List.nodup_cons.1 hnd;obtain⟨hSi,hTi,hil⟩:=hl i (by simp)
  obtain⟨o,x,nk,ob,blk,ho,hx,hy,hob,hR,hown,hge,hnk⟩:=h.recs i hSi hTi;simp only[alsD,ho,hx,newW]at hk;have hJ:∀b,b<s.next->putJ J s.next ⟨blk,0,A8t x,0⟩ b=J b:=fun b hb=>by simp[putJ,Nat.ne_of_lt hb]
  have hR1:Rel P G N L A s0 J0 w0 a0 S (fun j=>T j/\j≠i) (setV vals i (nk.val s.next)) (s.alloc x) (putJ J s.next ⟨blk,0,A8t x,0⟩) w cv:=by
   refine⟨h.sim.install hob hown hR,Step.install h.sim.live h.step hge,h.init.mono (Nat.le_succ _) hJ,?_,?_,fun j k hjk hj hk tj tk=>h.sep j k hjk hj hk tj.1 tk.1⟩
   ·intro j hj ht;by_cases hji:j=i
    ·subst hji;rw[A9c,hy];exact NewV.rel hnk blk
    ·rw[A4t _ (Ne.symm hji)];exact(h.rel j hj (fun t=>ht ⟨t,hji⟩)).mono (Nat.le_succ _) hJ
   ·rintro j hj ⟨tj,hji⟩;obtain⟨o',x',nk',ob',blk',ho',hx',hy',hob',hR',hown',hge',hnk'⟩:=h.recs j hj tj;refine⟨o',x',nk',ob',blk',ho',?_,hy',hob',hR'.mono (Nat.le_succ _) hJ,?_,hge',hnk'⟩
    ·have e:opdD L (setV vals i (nk.val s.next)) A j=opdD L vals A j:=A6n (fun k hk=>by rw[A4t _ (fun e=>(hsrc j tj k hk).2 (by simp[e]))])
     rw[e];exact hx'
    rintro k ⟨b,z,hz,hoz⟩;simp only[St.alloc]at hz;split at hz
    ·rename_i hb;subst hb;simp only[putJ,if_true]at hoz;have:blk=blk':=by cases z<;>first|exact hoz.1|exact hoz
     have hne:=h.sep i j (Ne.symm hji) hSi hj hTi tj;rw[hy,hy',this,B1c,B1c]at hne;exact hne rfl
    ·have hbl:=h.sim.live b z hz;rw[hJ b hbl]at hoz;exact hown' k ⟨b,z,hz,hoz⟩
  obtain⟨vals',s',J',h1,h2,h3⟩:=ih _ _ _ _ hR1 hk (fun j hj=>by
   obtain⟨a,b,c⟩:=hl j (by simp[hj])
   exact⟨a,⟨b,fun e=>hir (e▸hj)⟩,c⟩) hnd (fun k tk j hj=>⟨fun t=>(hsrc k tk.1 j hj).1 t.1,fun hm=>(hsrc k tk.1 j hj).2 (by simp[hm])⟩)
  refine⟨vals',s',J',h1,?_,fun j hj=>?_⟩
  ·have e:(fun j=>(T j/\j≠i)/\j∉r)=(fun j=>T j/\j∉i::r):=by
    funext j;simp only[List.mem_cons,not_or,and_assoc]
   rw[<-e];exact h2
  ·simp only[List.mem_cons,not_or]at hj;rw[h3 j hj.2,A4t _ (Ne.symm hj.1)]
theorem Rec.step{s s1:St}{J J1:Nat->Plc}{w0 w w1:World}{i:Nat}{y:Value}{vals vals1:Nat->Value}(h:Rec P L A vals s J w0 w i y)(hs:Step s J w s1 J1 w1)(hv:∀j∈srcs L i,vals1 j=vals j):Rec P L A vals1 s1 J1 w0 w1 i y:=by
 obtain⟨o,x,nk,ob,blk,ho,hx,hy,hob,hR,hown,hge,hnk⟩:=h;have hlt:=(Array.getElem?_eq_some_iff.1 hob).1;refine⟨o,x,nk,ob,blk,ho,by rw[A6n hv];exact hx,hy,?_,hR.mono hs.le hs.ext,fun k=>hs.free blk k hlt (hown k),hge,hnk⟩
 cases ob with
 | cells c e f=>
  obtain⟨c',h1,h2,h3⟩:=hs.row blk c e f hob;rw[h1];have:c'=c:=Array.ext_getElem? fun k=>h3 k (hown k);rw[this]
 | _=>exact hs.other blk _ hob (fun _ _ _ h=>by cases h) hown
theorem Rel.opd{n N:Nat}(ok:Ok P L p n)(hG:1000<=G){s0 s:St}{J0 J:Nat->Plc}{w0 w:World}{a0 a:Act}{S T:Nat->Prop}{vals:Nat->Value}{cv:Nat->Value}
  (hn:n=N) (R:Rel P G N L A s0 J0 w0 a0 S T vals s J w cv) (hf:Frm L S cv a0 a) (hcl:A95 L S) (hb:∀j,S j->j<L.length) {i:Nat} {o:Oper} (ho:L[i]?=some o) (hni:¬S i)
  (hr:∀e∈o.after,Region.binds .any e=true->S e.on) (hT:∀j∈srcs L i,¬T j) (x:Operand):VR s.next J false (opdD L vals A i x) (a.eval x):=by
 have hlt:=(List.getElem?_eq_some_iff.1 ho).1;cases x with
 | tmp d=>
  simp only[opdD,Act.eval];split
  ·rename_i hd;have hd:d∈B3p L i:=by simpa using hd
   have hlater:∀k,S k->A34 L k=some d->k<i:=by
    intro k hk hkd;rcases Nat.lt_trichotomy k i with h|h|h
    ·exact h
    ·subst h;exact absurd hk hni
    ·exact absurd (ok.war k i d (hb k hk) h hkd hd S hcl hk) hni
   split
   ·rename_i j hj;obtain⟨h1,h2,h3⟩:=A7v (show B3w _ i=some j from hj)
    have hjd:A34 L j=some d:=by simpa using h2
    have hSj:S j:=(ok.raw i j d hlt h1 hjd hd).now hcl ho hr (by omega)
    have hdl:d<a.tmps.size:=by rw[hf.sz,R.init.1,<-hn];exact ok.dst j d hjd
    rw[hf.w d j hdl hSj hjd (fun k hk hkd=>by
     have:=hlater k hk hkd;rcases Nat.lt_or_ge j k with hjk|hjk
     ·have:=h3 k hjk this;simp[hkd]at this
     ·exact hjk)]
    exact R.rel j hSj (hT j (B3q hd hj))
   ·rename_i hj;have h3:=B27 (show B3w _ i=none from hj)
    rw[hf.o d (fun k hk hkd=>by
     have:=h3 k (hlater k hk hkd);simp[hkd]at this)]
    exact R.init.2 d
  ·exact .dc
 | const v=>exact B2j R.sim (a:=a0) R.init (.const v) hG
 | global g=>exact B2j R.sim (a:=a0) R.init (.global g) hG
 | func f=>exact B2j R.sim (a:=a0) R.init (.func f) hG
theorem Rel.guard{n N:Nat}(ok:Ok P L p n){s0 s:St}{J0 J:Nat->Plc}{w0 w:World}{a0 a:Act}{S T:Nat->Prop}{vals:Nat->Value}{cv:Nat->Value}{ops:Array Oper}(hops:ops.toList=L)
  (hn:n=N) (R:Rel P G N L A s0 J0 w0 a0 S T vals s J w cv) (hf:Frm L S cv a0 a) (hcl:A95 L S) {i:Nat} {o:Oper} (ho:L[i]?=some o)
  (hr:∀e∈o.after,Region.binds .any e=true->S e.on) (hT:∀j,isK .a p L j=false->¬T j) {c:Bool} (hw:A2t vals o.guard=some c):Region.wanted o (yielded ops a.tmps)=c:=by
 unfold Region.wanted;cases hg:o.guard with
 | none=>rw[hg]at hw;cases hw;rfl
 | some jb=>
  obtain⟨j,b⟩:=jb;obtain⟨h1,h2,h3,h4,d,h5,h6⟩:=ok.grd i o j b ho hg;have hSj:S j:=h2.now hcl ho hr (by omega)
  have hv:=R.rel j hSj (hT j h4);rw[hg]at hw;simp only[A2t,A1j]at hw;split at hw
  ·rename_i b' hb';rw[hb']at hv;have hc:=hv.bool_inv;have hdl:d<a.tmps.size:=by rw[hf.sz,R.init.1,<-hn];exact ok.dst j d h5
   have hd:=hf.w d j hdl hSj h5 (fun k _ hkd=>by rw[h6 k hkd];exact Nat.le_refl _)
   rw[hc]at hd;have hoj:(ops[j]?).bind (·.dst)=some d:=by rw[<-h5,<-hops];simp[A34]
   have hget:a.tmps[d]?=some (.bool b'):=by
    rw[Array.getD_eq_getD_getElem?,Array.getElem?_eq_getElem hdl]at hd;rw[Array.getElem?_eq_getElem hdl];exact congrArg some hd
   simp only[yielded,hoj,Option.bind_some,hget];cases hw;cases b'<;>cases b<;>rfl
  ·rename_i hb';rw[hb']at hv;have hc:=hv.skip_inv;have hdl:d<a.tmps.size:=by rw[hf.sz,R.init.1,<-hn];exact ok.dst j d h5
   have hd:=hf.w d j hdl hSj h5 (fun k _ hkd=>by rw[h6 k hkd];exact Nat.le_refl _)
   rw[hc]at hd;have hoj:(ops[j]?).bind (·.dst)=some d:=by rw[<-h5,<-hops];simp[A34]
   have hget:a.tmps[d]?=some undef:=by
    rw[Array.getD_eq_getD_getElem?,Array.getElem?_eq_getElem hdl]at hd;rw[Array.getElem?_eq_getElem hdl];exact congrArg some hd
   simp only[yielded,hoj,Option.bind_some,hget,undef];cases hw;cases b<;>rfl
  ·cases hw
end Go.Zz
namespace Go.Zz
open Go
variable {P : Program} {G : Nat} {F : Fence} {C : A33} {L : List Oper} {p : Plan} {A : Fr}
abbrev Late(L:List Oper)(p:Plan)(g:Nat):Nat->Prop:=fun j=>isK .a p L j=true/\g<=p.av.getD j 0
structure Stt(P:Program)(G N:Nat)(C:A33)(L:List Oper)(p:Plan)(A:Fr)(K:(Nat->Value)->St->Prop)(s0:St)(J0:Nat->Plc)(w0:World)(a0:Act)(S:Nat->Prop)(g:Nat)(vals:Nat->Value)(s:St)(J:Nat->Plc)(cv:Nat->Value)(a:Act)(w:World):Prop where
 gle:g<=p.es.length
 bnd:∀j,S j->j<L.length
 clo:A95 L S
 R:Rel P G N L A s0 J0 w0 a0 S (Late L p g) vals s J w cv
 frm:Frm L S cv a0 a
 pre:∀k,k<p.es.length->(S (p.es.getD k 0)↔k<g)
 abs:Abs0 P L p A (g+1) vals
 rds:∀i,isK .r p L i=true->p.av.getD i 0<=g->g<=p.hi.getD i 0->DetT P L A vals s i
 nxt:alsD P L A (E2d P C L p A K (p.es.drop g) g) (A7s L p g) vals s
section
variable {K : (Nat → Value) → St → Prop} {s0 s : St} {J0 J : Nat → Plc} {w0 w : World} {a0 a : Act} {S : Nat → Prop} {g n N : Nat} {vals : Nat → Value} {cv : Nat → Value}
theorem Ok.es_lt(ok:Ok P L p n){k:Nat}(hk:k<p.es.length):p.es.getD k 0<L.length/\isK .e p L (p.es.getD k 0)=true:=by
 have hm:p.es.getD k 0∈p.es:=by
  rw[List.getD_eq_getElem?_getD,List.getElem?_eq_getElem hk];exact List.getElem_mem hk
 rw[ok.es,List.mem_filter,List.mem_range]at hm;rw[ok.es];exact hm
theorem Ok.nodup(ok:Ok P L p n):p.es.Nodup:=by rw[ok.es];exact List.Pairwise.filter _ List.nodup_range
theorem Ok.es_inj(ok:Ok P L p n){k l:Nat}(hk:k<p.es.length)(hl:l<p.es.length)(h:p.es.getD k 0=p.es.getD l 0):k=l:=by
 rw[List.getD_eq_getElem?_getD,List.getD_eq_getElem?_getD,List.getElem?_eq_getElem hk,List.getElem?_eq_getElem hl]at h;have hp:=List.pairwise_iff_getElem.1 (show p.es.Pairwise (·≠·)from ok.nodup)
 have h:p.es[k]=p.es[l]:=by simpa using h
 rcases Nat.lt_trichotomy k l with hlt|heq|hgt
 ·exact absurd h (hp k l hk hl hlt)
 ·exact heq
 ·exact absurd h.symm (hp l k hl hk hgt)
theorem Ok.es_mem(ok:Ok P L p n){i:Nat}(h:isK .e p L i=true):∃k,k<p.es.length/\p.es.getD k 0=i:=by
 have hm:i∈p.es:=by rw[ok.es,List.mem_filter,List.mem_range];exact⟨A6e h,h⟩
 obtain⟨k,hk,he⟩:=List.mem_iff_getElem.1 hm;exact⟨k,hk,by rw[List.getD_eq_getElem?_getD,List.getElem?_eq_getElem hk];exact he⟩
theorem Ok.late_srcs(ok:Ok P L p n){i j:Nat}(ha:isK .a p L i=true)(hj:j∈srcs L i):isK .a p L j=false:=by
 have:=ok.eas i (A6e ha) ha j hj;split at this
 ·rename_i hje;exact A09 hje (by simp)
 ·exact this.1
theorem Ok.srcs_done(ok:Ok P L p n){S:Nat->Prop}{i j:Nat}(hcl:A95 L S)(hi:S i)(hil:i<L.length)(hj:j∈srcs L i):S j:=by
 unfold srcs at hj;rcases List.mem_append.1 hj with hj|hj
 ·obtain⟨d,hd,hs⟩:=List.mem_filterMap.1 hj;obtain⟨h1,h2,_⟩:=A7v (show B3w _ i=some j from hs)
  exact ok.raw i j d hil h1 (by simpa using h2) hd S hcl hi
 ·cases ho:L[i]? with
  | none=>rw[ho]at hj;simp at hj
  | some o=>
   simp only[ho]at hj;cases hg:o.guard with
   | none=>simp only[hg]at hj;simp at hj
   | some jb=>
    obtain⟨k,b⟩:=jb;simp only[hg,List.mem_singleton]at hj;subst hj;exact(ok.grd i o _ b ho hg).2.1 S hcl hi
theorem A4m{i:Nat}:i∈A7s L p g↔isK .a p L i=true/\p.av.getD i 0=g:=by
 unfold A7s;rw[List.mem_filter,List.mem_range];simp only[Bool.and_eq_true,beq_iff_eq];exact⟨fun h=>h.2,fun h=>⟨A6e h.1,h⟩⟩
theorem Stt.av_le(h:Stt P G N C L p A K s0 J0 w0 a0 S g vals s J cv a w)(ok:Ok P L p n){j:Nat}(hj:S j)(he:isK .e p L j=false)(ha:isK .a p L j=false):p.av.getD j 0<=g:=by
 rcases Nat.lt_or_ge g (p.av.getD j 0)with hlt|hle
 ·have hjl:=h.bnd j hj;have hm:=(ok.avm j hjl he).1;have:=ok.avl j hjl he ha g hlt S h.clo hj;have:=(h.pre g (by omega)).1 this
  omega
 ·exact hle
theorem D0g{q:Nat->Bool}{m:Nat}:B3w q (m+1)=if q m then some m else B3w q m:=rfl
theorem D8f(vals:Nat->Value)(A:Fr)(hN:∀i d,A34 L i=some d->d<N):∀m d,finD N L vals A m d=match B3w (fun j=>A34 L j==some d) m with
  | some j=>vals j
  | none=>A d:=by
 intro m;induction m with
 | zero=>exact fun _=>rfl
 | succ m ih=>
  intro d;rw[D0g];simp only[finD];cases hm:A34 L m with
  | none=>simpa[putA]using ih d
  | some d'=>
   have hb:Nat.blt d' N=true:=by simpa using hN m d' hm
   by_cases hdd:d'=d
   ·subst hdd;simp only[putA,hb,beq_self_eq_true,if_true];rw[A9c]
   ·have:(some d'==some d)=false:=by simpa using hdd
    simp only[putA,hb,this,Bool.false_eq_true,if_false];rw[A4t _ hdd];exact ih d
theorem Stt.done{n:Nat}(h:Stt P G N C L p A K s0 J0 w0 a0 S g vals s J cv a w)(ok:Ok P L p n)(hn:n=N)(hall:∀j,j<L.length->S j) :
  ∃vals' s' J',K vals' s'/\Sim G s' J' w/\Step s0 J0 w0 s' J' w/\VRf N s'.next J' (finD N L vals' A L.length) a.tmps/\a.defers=a0.defers:=by
 have hg:g=p.es.length:=by
  rcases Nat.lt_or_ge g p.es.length with hlt|hle
  ·have:=(h.pre g hlt).1 (hall _ (ok.es_lt hlt).1);omega
  ·exact Nat.le_antisymm h.gle hle
 obtain⟨vals',s',J',h1,R,h3⟩:=B53 (A7s L p g) _ vals s J h.R h.nxt (fun i hi=>by
  obtain⟨h1,h2⟩:=A4m.1 hi;exact⟨hall i (A6e h1),⟨h1,by omega⟩,A6e h1⟩) (List.Pairwise.filter _ List.nodup_range)
  (fun i t j hj=>⟨fun t'=>Bool.noConfusion ((ok.late_srcs t.1 hj).symm.trans t'.1),fun hm=>Bool.noConfusion ((ok.late_srcs t.1 hj).symm.trans (A4m.1 hm).1)⟩)
 have hd:p.es.drop g=[]:=by rw[hg];exact List.drop_length
 rw[hd]at h1;refine⟨vals',s',J',h1,R.sim,R.step,?_,h.frm.defers⟩;refine⟨by rw[h.frm.sz,R.init.1],fun d=>?_⟩
 rw[D8f vals' A (fun i d hd=>hn▸ok.dst i d hd)];split
 ·rename_i j hj;obtain⟨h1,h2,h3⟩:=A7v hj;have hjd:A34 L j=some d:=by simpa using h2
  have hda:d<a.tmps.size:=by rw[h.frm.sz,R.init.1,<-hn];exact ok.dst j d hjd
  rw[h.frm.w d j hda (hall j h1) hjd (fun k _ hkd=>by
   rcases Nat.lt_or_ge j k with hjk|hjk
   ·have:=h3 k hjk (B8w hkd);simp[hkd]at this
   ·exact hjk)]
  refine R.rel j (hall j h1) (fun hT=>?_);obtain⟨⟨t1,t2⟩,t3⟩:=hT;have:=(ok.avm j h1 (A09 t1 (by simp))).1
  exact t3 (A4m.2 ⟨t1,by omega⟩)
 ·rename_i hj;have h3:=B27 hj;rw[h.frm.o d (fun k hk hkd=>by
   have:=h3 k (B8w hkd);simp[hkd]at this)]
  exact R.init.2 d
theorem Stt.one(hF:Wide F)(hC:B9s P G C)(hG:1000<=G){n:Nat}{ops:Array Oper}(hops:ops.toList=L){Q:Exit->Act->World->Prop}(ok:Ok P L p n)(hn:n=N)
  (h:Stt P G N C L p A K s0 J0 w0 a0 S g vals s J cv a w) {i:Nat} {o:Oper} (ho:L[i]?=some o) (hni:¬S i) (hr:∀e∈o.after,Region.binds .any e=true->S e.on) :
  wpOpIn F 0 P ops Q i (fun a' w'=>∃g' vals' s' J' cv',Stt P G N C L p A K s0 J0 w0 a0 (fun k=>S k\/k=i) g' vals' s' J' cv' a' w') a w:=by
 have hil:=(List.getElem?_eq_some_iff.1 ho).1;have hio:ops[i]?=some o:=by rw[<-ho,<-hops];simp
 have hdi:A34 L i=o.dst:=by simp[A34,ho]
 have hcl':=h.clo.add ho hr;have hb':∀j,(S j\/j=i)->j<L.length:=fun j hj=>hj.elim (h.bnd j) (fun e=>e▸hil);have hab:=B2r (P:=P) (w:=w) hF o a;unfold wpOpIn;simp only[hio];have run:∀{v':Value} {w1:World} {Kk:Act->World->Prop},(∀c,o.op≠.defer c)->(execOp a.eval o).run P w=.ok (.value v') w1->Kk (a.put o.dst v') w1->o.wpIn F 0 P a w Kk Q:=by
  intro v' w1 Kk hnd hrun hk;refine⟨hab,?_⟩;rw[Oper.semAt_eq _ _ _ hnd,hrun];exact hk
 by_cases hie:isK .e p L i=true
 ·-- a change
  obtain⟨k,hk,hki⟩:=ok.es_mem hie;have hkg:k=g:=by
   rcases Nat.lt_trichotomy k g with hlt|heq|hgt
   ·have:=(h.pre k hk).2 hlt;rw[hki]at this;exact absurd this hni
   ·exact heq
   ·have:=ok.ord k g hk hgt;rw[hki]at this;have:=this.now h.clo ho hr (fun e=>by
     have:=ok.es_inj (by omega) hk (e.trans hki.symm);omega)
    have:=(h.pre g (by omega)).1 this
    omega
  subst hkg;obtain⟨vals1,s1,J1,hnx,R1,hv1⟩:=B53 (A7s L p k) _ vals s J h.R h.nxt (fun j hj=>by
   obtain⟨ha,hav⟩:=A4m.1 hj;have hjl:=A6e ha;refine⟨?_,⟨ha,by omega⟩,hjl⟩
   have h1:=(ok.avm j hjl (A09 ha (by simp))).2.2
   rw[<-ok.ava j hjl ha,hav]at h1;rcases h1 with h1|h1
   ·omega
   ·rw[hki]at h1;exact h1.now h.clo ho hr (fun e=>by subst e;rw[A09 ha (by simp)]at hie;cases hie)) (List.Pairwise.filter _ List.nodup_range)
   (fun i t j hj=>⟨fun t'=>Bool.noConfusion ((ok.late_srcs t.1 hj).symm.trans t'.1),fun hm=>Bool.noConfusion ((ok.late_srcs t.1 hj).symm.trans (A4m.1 hm).1)⟩)
  have hdrop:p.es.drop k=i::p.es.drop (k+1):=by
   rw[List.drop_eq_getElem_cons hk];congr 1;rw[<-hki,List.getD_eq_getElem?_getD,List.getElem?_eq_getElem hk];rfl
  rw[hdrop]at hnx;simp only[E2d,ho]at hnx;have hT1:∀j,isK .a p L j=false->¬(Late L p k j/\j∉A7s L p k):=fun j hj t=>by rw[t.1.1]at hj;cases hj
  have hTs:∀j∈srcs L i,¬(Late L p k j/\j∉A7s L p k):=by
   intro j hj t;have:=ok.ese k hk j (by rw[hki];exact hj)
   split at this
   ·rename_i hje;exact hT1 j (A09 hje (by simp)) t
   ·exact t.2 (A4m.2 ⟨t.1.1,by have:=t.1.2;omega⟩)
  have fin:∀(v v':Value) (s2:St) (J2:Nat->Plc) (w2:World),B78 P C L p A K (p.es.drop (k+1)) (k+1) (setV vals1 i v) s2->VR s2.next J2 false v v'->Sim G s2 J2 w2->Step s1 J1 w s2 J2 w2->
    ∃g' vals' s' J' cv',Stt P G N C L p A K s0 J0 w0 a0 (fun k=>S k\/k=i) g' vals' s' J' cv' (a.put o.dst v') w2:=by
   intro v v' s2 J2 w2 hev hv hS2 hst;have h0:Abs0 P L p A (k+1) (setV vals1 i v):=h.abs.congr ok (fun j hja hje=>by
    have hj:j∉A7s L p k:=fun hj=>by rw[(A4m.1 hj).1]at hja;cases hja
    by_cases hji:i=j
    ·exfalso;have hm:=hje (hji▸hie);obtain⟨l,hl,hle⟩:=List.mem_iff_getElem.1 hm;rw[List.getElem_take]at hle;have hl':l<k/\l<p.es.length:=by rw[List.length_take]at hl;omega
     have:p.es.getD l 0=p.es.getD k 0:=by rw[hki,hji,<-hle,List.getD_eq_getElem?_getD,List.getElem?_eq_getElem hl'.2];rfl
     have:=ok.es_inj hl'.2 hk this;omega
    ·rw[A4t _ hji];exact hv1 j hj)
   obtain⟨vals2,e2,e3,e4,e5⟩:=enter ok h0 hev;have hv2:∀j,S j->vals2 j=vals1 j:=by
    intro j hj;have hji:i≠j:=fun e=>hni (e▸hj);rw[e5 j (fun hc=>?_),A4t _ hji];have he:isK .e p L j=false:=hc.1.elim (fun h=>A09 h (by simp)) (fun h=>A09 h (by simp))
    have ha:isK .a p L j=false:=hc.1.elim (fun h=>A09 h (by simp)) (fun h=>A09 h (by simp))
    have:=h.av_le ok hj he ha;omega
   have hvi:vals2 i=v:=by
    rw[e5 i (fun hc=>?_),A9c];rcases hc.1 with hc|hc
    ·rw[A09 hc (by simp)]at hie;cases hie
    ·rw[A09 hc (by simp)]at hie;cases hie
   have hia:isK .a p L i=false:=A09 hie (by simp)
   have toT1:∀j,Late L p (k+1) j->Late L p k j/\j∉A7s L p k:=fun j t=>⟨⟨t.1,by have:=t.2;omega⟩,fun hm=>by have:=(A4m.1 hm).2;have:=t.2;omega⟩
   refine⟨k+1,vals2,s2,J2,upd cv i v',by omega,hb',hcl',⟨hS2,R1.step.trans hst,R1.init.mono hst.le hst.ext,?_,?_,?_⟩,h.frm.put ok h.clo h.bnd ho hni v',?_,e3,e4,e2⟩
   ·intro j hj ht;by_cases hji:j=i
    ·subst hji;rw[hvi];simpa[upd]using hv
    ·have hSj:=hj.resolve_right hji;rw[hv2 j hSj];simp only[upd,if_neg hji];refine(R1.rel j hSj (fun t=>ht ⟨t.1.1,?_⟩)).mono hst.le hst.ext;rcases Nat.lt_or_ge k (p.av.getD j 0)with h'|h'
     ·omega
     ·exact absurd (A4m.2 ⟨t.1.1,by have:=t.1.2;omega⟩) t.2
   ·intro j hj ht;have hji:j≠i:=fun e=>by subst e;rw[ht.1]at hia;cases hia
    have hSj:=hj.resolve_right hji;simp only[upd,if_neg hji];exact(R1.recs j hSj (toT1 j ht)).step hst (fun q hq=>hv2 q (ok.srcs_done h.clo hSj (h.bnd j hSj) hq))
   ·intro j l hjl hj hl tj tl;have hji:j≠i:=fun e=>by subst e;rw[tj.1]at hia;cases hia
    have hli:l≠i:=fun e=>by subst e;rw[tl.1]at hia;cases hia
    simp only[upd,if_neg hji,if_neg hli];exact R1.sep j l hjl (hj.resolve_right hji) (hl.resolve_right hli) (toT1 j tj) (toT1 l tl)
   ·intro l hl;constructor
    ·rintro(hs|hs)
     ·have:=(h.pre l hl).1 hs;omega
     ·have:=ok.es_inj hl hk (hs.trans hki.symm);omega
    ·intro hlt;by_cases hlk:l=k
     ·subst hlk;exact .inr hki
     ·exact .inl ((h.pre l hl).2 (by omega))
  rw[C64 (fun e=>by rw[e];rfl)]at hnx
  unfold gW at hnx;split at hnx
  ·rename_i hw;rw[R1.guard ok hops hn h.frm h.clo ho hr hT1 hw];simp only[if_true];refine Oper.wpIn_mono ?_ (D5r hF hC R1.sim (fun x=>R1.opd ok hG hn h.frm h.clo h.bnd ho hni hr hTs x) hnx);rintro a' w' ⟨v',rfl,v,s2,J2,hk2,hv,hS2,hst⟩;exact fin v v' s2 J2 w' hk2 hv hS2 hst
  ·rename_i hw;rw[R1.guard ok hops hn h.frm h.clo ho hr hT1 hw];simp only[Bool.false_eq_true,if_false];exact⟨hab,fin (.chan none) undef s1 J1 w hnx .skip R1.sim (.refl _ _ _)⟩
  ·exact hnx.elim
 ·have hie:isK .e p L i=false:=by simpa using hie
  have hpre:∀k,k<p.es.length->((S (p.es.getD k 0)\/p.es.getD k 0=i)↔k<g):=fun k hk=>by
   rw[<-h.pre k hk];refine⟨fun hs=>hs.resolve_right (fun e=>?_),.inl⟩;have:=(ok.es_lt hk).2;rw[e,hie]at this;cases this
  by_cases hia:isK .a p L i=true
  ·-- a block
   have hca:=ok.made i o ho hia;have hgn:o.guard=none:=by
    cases hg:o.guard with
    | none=>rfl
    | some jb=>obtain⟨j,b⟩:=jb;rw[(ok.grd i o j b ho hg).2.2.1]at hia;cases hia
   have hear:p.ear.getD i 0<=g:=by
    obtain⟨hm,hl⟩:=ok.eal i hil hia;rcases Nat.lt_or_ge g (p.ear.getD i 0)with hlt|hle
    ·have h1:=(hl g hlt).now h.clo ho hr (fun e=>by
      have:=(ok.es_lt (k:=g) (by omega)).2
      rw[e,hie]at this;cases this)
     have:=(h.pre g (by omega)).1 h1
     omega
    ·exact hle
   obtain⟨⟨x,nk⟩,hx⟩:=Option.isSome_iff_exists.1 (h.abs.m i hia (by omega) o ho)
   obtain⟨hnk,ob,hR,hrun⟩:=D8o (n:=s.next) (J:=J) (ρ':=a.eval) hca (fun x=>h.R.opd ok hG hn h.frm h.clo h.bnd ho hni hr (fun j hj t=>Bool.noConfusion ((ok.late_srcs hia hj).symm.trans t.1)) x) hx
   have hgav:g<=p.av.getD i 0:=by
    rcases Nat.lt_or_ge (p.av.getD i 0) g with hlt|hle
    ·have h1:=(ok.avm i hil hie).2.2;rw[<-ok.ava i hil hia]at h1;have hle:=h.gle;rcases h1 with h1|h1
     ·omega
     ·exact absurd (h1 S h.clo ((h.pre _ (by omega)).2 hlt)) hni
    ·exact hle
   have hw:Region.wanted o (yielded ops a.tmps)=true:=by simp[Region.wanted,hgn]
   rw[hw];simp only[if_true];refine run (fun c he=>by rw[he]at hca;simp[cls]at hca) (hrun w) ⟨g,vals,s,J,upd cv i (nk.val w.heap.size),h.gle,hb',hcl',
    ⟨h.R.sim.holds (A51 w ob),h.R.step.alloc ob,h.R.init,?_,?_,?_⟩,h.frm.put ok h.clo h.bnd ho hni _,hpre,h.abs,h.rds,h.nxt⟩
   ·intro j hj ht;by_cases hji:j=i
    ·subst hji;exact absurd ⟨hia,hgav⟩ ht
    ·simp only[upd,if_neg hji];exact h.R.rel j (hj.resolve_right hji) ht
   ·intro j hj ht;by_cases hji:j=i
    ·subst hji;simp only[upd,if_true];refine⟨o,x,nk,ob,w.heap.size,ho,hx,rfl,by show(w.heap.push _)[w.heap.size]?=_;exact Array.getElem?_push_size,hR,?_,h.R.step.size,hnk⟩
     rintro k ⟨b,y,hy,hoy⟩;have:=(h.R.sim.obj b y hy).lt;rw[hoy.cb]at this;omega
    ·simp only[upd,if_neg hji];obtain⟨o',x',nk',ob',blk',r1,r2,r3,r4,r5,r6,r7,r8⟩:=h.R.recs j (hj.resolve_right hji) ht;exact⟨o',x',nk',ob',blk',r1,r2,r3,(A51 w ob).at r4,r5,r6,r7,r8⟩
   ·intro j l hjl hj hl tj tl;have key:∀q,S q->Late L p g q->D2j (cv q)≠D2j (nk.val w.heap.size):=by
     intro q hq tq he;obtain⟨o',x',nk',ob',blk',r1,r2,r3,r4,r5,r6,r7,r8⟩:=h.R.recs q hq tq;rw[r3,B1c,B1c]at he;have:=(Array.getElem?_eq_some_iff.1 r4).1;omega
    by_cases hji:j=i
    ·subst hji;have hlj:l≠j:=fun e=>hjl e.symm;simp only[upd,if_true,if_neg hlj];exact fun e=>key l (hl.resolve_right hlj) tl e.symm
    ·by_cases hli:l=i
     ·subst hli;simp only[upd,if_true,if_neg hji];exact key j (hj.resolve_right hji) tj
     ·simp only[upd,if_neg hji,if_neg hli];exact h.R.sep j l hjl (hj.resolve_right hji) (hl.resolve_right hli) tj tl
  ·-- what only looks
   have hia:isK .a p L i=false:=by simpa using hia
   have hav:p.av.getD i 0<=g:=by
    rcases Nat.lt_or_ge g (p.av.getD i 0)with hlt|hle
    ·have hm:=(ok.avm i hil hie).1;have h1:=(ok.avl i hil hie hia g hlt).now h.clo ho hr (fun e=>by
      have:=(ok.es_lt (k:=g) (by omega)).2
      rw[e,hie]at this;cases this)
     have:=(h.pre g (by omega)).1 h1
     omega
    ·exact hle
   have hhi:g<=p.hi.getD i 0:=by
    rcases Nat.lt_or_ge (p.hi.getD i 0) g with hlt|hle
    ·have h1:=(ok.avm i hil hie).2.2;have hle:=h.gle;rcases h1 with h1|h1
     ·omega
     ·exact absurd (h1 S h.clo ((h.pre _ (by omega)).2 hlt)) hni
    ·exact hle
   have hT:∀j,isK .a p L j=false->¬Late L p g j:=fun j hj t=>by rw[t.1]at hj;cases hj
   have hTs:∀j∈srcs L i,¬Late L p g j:=by
    intro j hj;have:=ok.avs i hil hie hia j hj;split at this
    ·rename_i hje;exact hT j (A09 hje (by simp))
    ·exact hT j this.1
   have fin:∀v',VR s.next J false (vals i) v'->∃g' vals' s' J' cv',Stt P G N C L p A K s0 J0 w0 a0 (fun k=>S k\/k=i) g' vals' s' J' cv' (a.put o.dst v') w:=by
    intro v' hv;refine⟨g,vals,s,J,upd cv i v',h.gle,hb',hcl',⟨h.R.sim,h.R.step,h.R.init,?_,?_,?_⟩,h.frm.put ok h.clo h.bnd ho hni _,hpre,h.abs,h.rds,h.nxt⟩
    ·intro j hj ht;by_cases hji:j=i
     ·subst hji;simpa[upd]using hv
     ·simp only[upd,if_neg hji];exact h.R.rel j (hj.resolve_right hji) ht
    ·intro j hj ht;have hji:j≠i:=fun e=>by subst e;exact hT j hia ht
     simp only[upd,if_neg hji];exact h.R.recs j (hj.resolve_right hji) ht
    ·intro j l hjl hj hl tj tl;have hji:j≠i:=fun e=>by subst e;exact hT j hia tj
     have hli:l≠i:=fun e=>by subst e;exact hT l hia tl
     simp only[upd,if_neg hji,if_neg hli];exact h.R.sep j l hjl (hj.resolve_right hji) (hl.resolve_right hli) tj tl
   obtain⟨hw0,hwf⟩:=h.abs.f i hil hie hia (by omega) o ho
   have hdt:DetT P L A vals s i:=by
    rcases D5f hil hie hia with hp|hp
    ·exact h.abs.t i hp (by omega) s
    ·exact h.rds i hp hav hhi
   cases hw:A2t vals o.guard with
   | none=>exact absurd hw hw0
   | some c=>
    rw[h.R.guard ok hops hn h.frm h.clo ho hr hT hw];cases c with
    | false=>
     simp only[Bool.false_eq_true,if_false];exact⟨hab,fin undef (by rw[hwf hw];exact .skip)⟩
    | true=>
     simp only[if_true];have hv:=hdt o ho hw;have hρ:∀x,VR s.next J false (opdD L vals A i x) (a.eval x):=fun x=>h.R.opd ok hG hn h.frm h.clo h.bnd ho hni hr hTs x
     rcases D5f hil hie hia with hp|hp
     ·rw[A8f ho]at hp;have hc:=B13.1 (show A8l p i o=.p by simpa using hp)
      simp only[valD,hc]at hv;obtain⟨v',h1,h2⟩:=C7i hc hρ hv;exact run (fun c he=>by rw[he]at hc;simp[cls]at hc) (h2 w) (fin v' h1)
     ·rw[A8f ho]at hp;have hc:=B13.2 (show A8l p i o=.r by simpa using hp)
      simp only[valD,hc]at hv;obtain⟨v',h1,h2⟩:=C5z h.R.sim hc hρ hv;exact run (fun c he=>by rw[he]at hc;simp[cls]at hc) (h2 w (.refl w)) (fin v' h1)
end
end Go.Zz
