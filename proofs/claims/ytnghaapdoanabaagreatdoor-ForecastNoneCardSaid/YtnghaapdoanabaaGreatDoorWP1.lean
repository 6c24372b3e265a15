import Derived.Test.YtnghaapdoanabaaGreatDoorWU2
import Derived.ProofKit
import Derived.Test.YtnghaapdoanabaaGreatDoorRows
import Derived.LaidMore
import Derived.LaidHandle
import Derived.OpenShut
import Derived.Stop.Joined
import Derived.Deep.Slices
import Derived.Deep.Fields
import Derived.ChangeSame
import Derived.Handed
set_option linter.all false
set_option maxRecDepth 20000
set_option linter.all false
namespace Go.Zz
open Go
structure Rng where
 cb:Nat
 lo:Nat
 n:Nat
def Rng.has(r:Rng)(cb o:Nat):Prop:=r.cb=cb/\r.lo<=o/\o<r.lo+r.n
def Rng.Known(w:World)(r:Rng):Prop:=0<r.n/\∃c e fr,w.heap[r.cb]?=some (.cells c e fr)/\∀o,r.lo<=o->o<r.lo+r.n->∃y,c[o]?=some y/\plain y=true/\¬(fr.1<=o/\o<fr.2)
def Rng.Apart(r q:Rng):Prop:=∀cb o,¬(r.has cb o/\q.has cb o)
def Rng.Sub(r q:Rng):Prop:=r.cb=q.cb/\q.lo<=r.lo/\r.lo+r.n<=q.lo+q.n
theorem Rng.Sub.refl(r:Rng):r.Sub r:=⟨rfl,Nat.le_refl _,Nat.le_refl _⟩
theorem Rng.Sub.trans{a b c:Rng}(h:a.Sub b)(k:b.Sub c):a.Sub c:=⟨h.1.trans k.1,Nat.le_trans k.2.1 h.2.1,Nat.le_trans h.2.2 k.2.2⟩
theorem F20(w:World):∀(n:Nat) (H:List Rng) (r:Rng),H.length=n->(∀q∈H,q.Known w)->H.Pairwise Rng.Apart->r.Known w->
  ∃H':List Rng,(∀q∈H',q.Known w)/\H'.Pairwise Rng.Apart/\(∃q∈H',r.Sub q)/\∀h∈H,∃q∈H',h.Sub q:=by
 intro n;induction n with
 | zero=>
  intro H r hn hk hp hr;have:H=[]:=by simpa using hn
  subst this;exact⟨[r],by simpa using hr,by simp,⟨r,by simp,.refl r⟩,by simp⟩
 | succ n ih=>
  intro H r hn hk hp hr;by_cases ho:∃h∈H,¬h.Apart r
  ·obtain⟨h,hh,hna⟩:=ho;have hov:∃cb o,h.has cb o/\r.has cb o:=by
    simp only[Rng.Apart]at hna;by_cases hx:∃cb o,h.has cb o/\r.has cb o
    ·exact hx
    ·exact absurd (fun cb o hh=>hx ⟨cb,o,hh⟩) hna
   obtain⟨cb,o,⟨a1,a2,a3⟩,b1,b2,b3⟩:=hov;obtain⟨i,hi,rfl⟩:=List.getElem_of_mem hh;have hcb:H[i].cb=r.cb:=a1.trans b1.symm;let u:Rng:=⟨r.cb,min H[i].lo r.lo,max (H[i].lo+H[i].n) (r.lo+r.n)-min H[i].lo r.lo⟩;have hu:u.Known w:=by
    obtain⟨h0,c,e,fr,h1,h2⟩:=hr;obtain⟨_,c',e',fr',h1',h2'⟩:=hk _ hh;rw[hcb,h1]at h1';cases h1';refine⟨by simp only[u];omega,c,e,fr,h1,fun x hx1 hx2=>?_⟩
    simp only[u]at hx1 hx2;by_cases hx:r.lo<=x/\x<r.lo+r.n
    ·exact h2 x hx.1 hx.2
    ·exact h2' x (by omega) (by omega)
   have hp':(H.eraseIdx i).Pairwise Rng.Apart:=hp.sublist (List.eraseIdx_sublist H i);obtain⟨H',k1,k2,⟨q,hq,hs⟩,k4⟩:=ih (H.eraseIdx i) u (by rw[List.length_eraseIdx];simp[hi];omega) (fun q hq=>hk q (List.mem_of_mem_eraseIdx hq)) hp' hu
   have su:r.Sub u:=⟨rfl,by simp only[u];omega,by simp only[u];omega⟩
   have sh:H[i].Sub u:=⟨hcb,by simp only[u];omega,by simp only[u];omega⟩
   refine⟨H',k1,k2,⟨q,hq,su.trans hs⟩,fun g hg=>?_⟩;obtain⟨j,hj,rfl⟩:=List.getElem_of_mem hg;by_cases hij:j=i
   ·subst hij;exact⟨q,hq,sh.trans hs⟩
   ·exact k4 _ (List.mem_eraseIdx_iff_getElem.2 ⟨j,hj,hij,rfl⟩)
  ·refine⟨r::H,fun q hq=>?_,?_,⟨r,by simp,.refl r⟩,fun h hh=>⟨h,by simp[hh],.refl h⟩⟩
   ·rcases List.mem_cons.1 hq with rfl|hq
    ·exact hr
    ·exact hk q hq
   ·rw[List.pairwise_cons];refine⟨fun q hq cb o hh=>?_,hp⟩;have:¬¬q.Apart r:=fun hx=>ho ⟨q,hq,hx⟩;exact this (fun hx=>hx cb o hh.symm)
theorem A6c(w:World)(L:List Rng)(hL:∀r∈L,r.Known w):∃H:List Rng,(∀q∈H,q.Known w)/\H.Pairwise Rng.Apart/\∀r∈L,∃q∈H,r.Sub q:=by
 induction L with
 | nil=>exact⟨[],by simp,by simp,by simp⟩
 | cons r t ih=>
  obtain⟨H,h1,h2,h3⟩:=ih (fun q hq=>hL q (by simp[hq]))
  obtain⟨H',k1,k2,k3,k4⟩:=F20 w H.length H r rfl h1 h2 (hL r (by simp))
  refine⟨H',k1,k2,fun q hq=>?_⟩;rcases List.mem_cons.1 hq with rfl|hq
  ·exact k3
  ·obtain⟨u,hu,hs⟩:=h3 q hq;obtain⟨v,hv,hs'⟩:=k4 u hu;exact⟨v,hv,hs.trans hs'⟩
def A2s(w:World)(r:Rng):List Value:=(List.range r.n).map fun i=>(w.cell? ⟨r.cb,r.lo+i,none⟩).getD undef
theorem B3k{w:World}{r:Rng}(hk:r.Known w){i:Nat}{x:Value}(h:(A2s w r)[i]?=some x):∃c e fr,w.heap[r.cb]?=some (.cells c e fr)/\c[r.lo+i]?=some x/\plain x=true/\i<r.n:=by
 obtain⟨_,c,e,fr,h1,h2⟩:=hk;have hi:i<r.n:=by have:=(List.getElem?_eq_some_iff.1 h).1;simpa[A2s]using this
 obtain⟨y,hy,hp,_⟩:=h2 (r.lo+i) (by omega) (by omega)
 refine⟨c,e,fr,h1,?_,?_,hi⟩<;>simp only[A2s,List.getElem?_map,List.getElem?_range hi,Option.map_some,World.cell?,h1]at h<;>simp[hy]at h
 ·rw[hy,h]
 ·rw[<-h];exact hp
theorem VR.float_inv{n:Nat}{J:Nat->Plc}{o:Bool}{y:Value}{k:FloatKind}{i:Nat}(h:VR n J o (.float k i) y):y=.float k i:=by
 generalize hx:Value.float k i=x at h;induction h<;>first|(cases hx;rfl)|(unfold undef at hx;cases hx;done)|(rename_i ih;exact ih hx)|(cases hx;done)
theorem B0q{n:Nat}{J:Nat->Plc}{o:Bool}{x y:Value}(h:VR n J o x y)(hp:plain x=true):y=x:=by
 cases x with
 | bool b=>exact h.bool_inv
 | int k i=>exact h.int_inv
 | float k i=>exact h.float_inv
 | complex k a b=>simp[plain]at hp
 | string s=>exact h.string_inv
 | pointer a=>cases a with
  | none=>exact h.nilPtr_inv
  | some a=>simp[plain]at hp
 | slice a l c=>cases a with
  | none=>obtain⟨rfl,rfl,h'⟩:=h.nilSlice_inv;exact h'
  | some a=>simp[plain]at hp
 | map r=>cases r with
  | none=>exact h.nilMap_inv
  | some r=>simp[plain]at hp
 | chan r=>simp[plain]at hp
 | func f a b=>
  obtain⟨f,rfl⟩:∃g,f=.func g:=by cases f<;>first|exact⟨_,rfl⟩|simp[plain]at hp
  obtain⟨fs',cs',rfl,hs,_,hf,_⟩:=h.func_inv;simp only[plain,Bool.and_eq_true,Array.isEmpty_iff]at hp;obtain⟨h1,h2⟩:=hp;simp_all
 | nilFunc=>exact h.nilFunc_inv
 | iface t v=>simp[plain]at hp
 | nilIface=>exact h.nilIface_inv
 | agg cs=>simp[plain]at hp
 | tuple vs=>simp[plain]at hp
structure Tabl(w:World)(bm:Nat)(es:Array MapEntry)(ck:Nat):Prop where
 cell:∃c e,w.heap[0]?=some (.cells c e (0,0))/\c[0]?=some (.map (some bm))
 map:w.heap[bm]?=some (.map es ck)
 ent:∀(i:Nat) (y:MapEntry),es[i]?=some y->(∃k,y.key=.int .i64 k)/\∃f,y.val=.func (.func f) #[] #[]
 born:∀(i:Nat) (y:MapEntry),es[i]?=some y->y.born<ck
 grow:∀(i j:Nat) (y z:MapEntry),i<j->es[i]?=some y->es[j]?=some z->y.born≠z.born
def B3d(es:Array MapEntry):List (Value×Value):=es.toList.map fun y=>(y.key,y.val)
def C1k(es:Array MapEntry):List Nat:=es.toList.map (·.born)
def stG(w:World)(es:Array MapEntry)(ck:Nat)(H:List Rng):St:=⟨fun b=>if b=0 then some (.cells [.map (some 1000)] false)else if b<1000 then none else if b=1000 then some (.map (B3d es) (C1k es) ck)else(H[b-1001]?).map fun r=>.cells (A2s w r) false,1001+H.length⟩
def JG(bm:Nat)(H:List Rng):Nat->Plc:=fun b=>if b=0 then⟨0,0,1,1⟩else if b<1000 then⟨b,0,0,0⟩else if b=1000 then⟨bm,0,0,0⟩else match H[b-1001]? with
 | some r=>⟨r.cb,r.lo,r.n,1⟩
 | none=>⟨b,0,0,0⟩
section
variable {w : World} {bm ck : Nat} {es : Array MapEntry} {H : List Rng}
theorem B2a{b:Nat}{x:AObj}(h:(stG w es ck H).heap b=some x):(b=0/\x=.cells [.map (some 1000)] false)\/(b=1000/\x=.map (B3d es) (C1k es) ck)\/∃i r,b=1001+i/\H[i]?=some r/\x=.cells (A2s w r) false:=by
 simp only[stG]at h;split at h
 ·next e=>cases h;exact .inl ⟨e,rfl⟩
 ·split at h
  ·cases h
  ·split at h
   ·next e=>cases h;exact .inr (.inl ⟨e,rfl⟩)
   ·rename_i h0 h1 h2;cases hr:H[b-1001]? with
    | none=>rw[hr]at h;cases h
    | some r=>rw[hr]at h;cases h;exact .inr (.inr ⟨b-1001,r,by omega,hr,rfl⟩)
theorem B6q{i:Nat}{r:Rng}(h:H[i]?=some r):JG bm H (1001+i)=⟨r.cb,r.lo,r.n,1⟩:=by
 have:1001+i-1001=i:=by omega
 have h1:¬1001+i=0:=by omega
 have h2:¬1001+i<1000:=by omega
 have h3:¬1001+i=1000:=by omega
 simp only[JG,if_neg h1,if_neg h2,if_neg h3,this,h]
theorem H0z{i:Nat}{r:Rng}(h:H[i]?=some r):(stG w es ck H).heap (1001+i)=some (.cells (A2s w r) false):=by
 have:1001+i-1001=i:=by omega
 have h1:¬1001+i=0:=by omega
 have h2:¬1001+i<1000:=by omega
 have h3:¬1001+i=1000:=by omega
 simp only[stG,if_neg h1,if_neg h2,if_neg h3,this,h];rfl
theorem E2a{f:FuncId}:plain (.func (.func f) #[] #[])=true:=rfl
theorem Tabl.not0(hT:Tabl w bm es ck){r:Rng}(hr:r.Known w)(o:Nat):¬(r.cb=0/\r.lo<=0/\0<r.lo+r.n):=by
 rintro⟨h1,h2,h3⟩;obtain⟨_,c,e,fr,g1,g2⟩:=hr;obtain⟨c',e',k1,k2⟩:=hT.cell;rw[h1,k1]at g1;cases g1;obtain⟨y,hy,hp,_⟩:=g2 0 h2 h3;rw[k2]at hy;cases hy;simp[plain]at hp
theorem Tabl.notm(hT:Tabl w bm es ck){r:Rng}(hr:r.Known w):r.cb≠bm:=by
 intro e;obtain⟨_,c,e',fr,g1,_⟩:=hr;rw[e,hT.map]at g1;cases g1
theorem Tabl.bm0(hT:Tabl w bm es ck):bm≠0:=by
 intro e;obtain⟨c',e',k1,_⟩:=hT.cell;have:=hT.map;rw[e,k1]at this;cases this
theorem F7a(hT:Tabl w bm es ck)(hk:∀r∈H,r.Known w)(hp:H.Pairwise Rng.Apart):Sim 1000 (stG w es ck H) (JG bm H) w where
 live b x hx:=by
  rcases B2a hx with⟨rfl,_⟩|⟨rfl,_⟩|⟨i,r,rfl,hr,_⟩
  ·simp only[stG];omega
  ·simp only[stG];omega
  ·have:=(List.getElem?_eq_some_iff.1 hr).1;simp only[stG];omega
 obj b x hx:=by
  rcases B2a hx with⟨rfl,rfl⟩|⟨rfl,rfl⟩|⟨i,r,rfl,hr,rfl⟩
  ·obtain⟨c,e,k1,k2⟩:=hT.cell;have hlt:0<c.size:=(Array.getElem?_eq_some_iff.1 k2).1;refine⟨Nat.le_refl _,fun _=>rfl,c,e,(0,0),k1,hlt,fun j x hx=>?_,fun j hj=>?_,fun j hj h=>by simp at h,fun h=>by cases h⟩
   ·have hj:j=0:=by
     have:=(List.getElem?_eq_some_iff.1 hx).1;simpa using this
    subst hj;simp only[List.getElem?_cons_zero,Option.some.injEq]at hx;subst hx;exact⟨_,k2,.map (by simp only[stG];omega)⟩
   ·have hj:j=0:=by simp only[JG]at hj;simpa using hj
    subst hj;exact⟨_,k2,rfl⟩
  ·refine⟨es,hT.map,by simp[B3d],rfl,fun i x y hx hy=>?_,hT.born,hT.grow⟩
   obtain⟨⟨k,e1⟩,f,e2⟩:=hT.ent i y hy;have:(B3d es)[i]?=some (y.key,y.val):=by
    simp only[B3d,List.getElem?_map,Array.getElem?_toList,hy,Option.map_some]
   rw[this]at hx;cases hx;rw[e1,e2];exact⟨.one (.int _ _),.one (VR.plain E2a)⟩
  ·have hkr:=hk r (List.mem_of_getElem? hr);rw[B6q hr];obtain⟨h0,c,e,fr,h1,h2⟩:=hkr;refine⟨by simp[A2s],fun _=>by simp[A2s],c,e,fr,h1,?_,fun j x hx=>?_,fun j hj=>?_,fun j hj=>?_,fun h=>by cases h⟩
   ·obtain⟨y,hy,_⟩:=h2 (r.lo+r.n-1) (by omega) (by omega)
    have:=(Array.getElem?_eq_some_iff.1 hy).1;simp only;omega
   ·obtain⟨c',e',fr',g1,g2,g3,_⟩:=B3k ⟨h0,c,e,fr,h1,h2⟩ hx;rw[h1]at g1;cases g1;exact⟨x,g2,VR.plain g3⟩
   ·obtain⟨y,hy,hpl,_⟩:=h2 (r.lo+j) (by simp only at hj;omega) (by simp only at hj;omega)
    exact⟨y,hy,(VR.plain (n:=0) (J:=JG bm H) hpl).one_right⟩
   ·obtain⟨y,hy,_,hf⟩:=h2 (r.lo+j) (by simp only at hj;omega) (by simp only at hj;omega)
    exact hf
 apart b b' x x' cb o hne hx hx' ho ho':=by
  rcases B2a hx with⟨rfl,rfl⟩|⟨rfl,rfl⟩|⟨i,r,rfl,hr,rfl⟩<;>rcases B2a hx' with⟨rfl,rfl⟩|⟨rfl,rfl⟩|⟨i',r',rfl,hr',rfl⟩
  ·exact hne rfl
  ·have e1:0=cb:=ho.1;have e2:bm=cb:=ho';exact hT.bm0 (e2.trans e1.symm)
  ·rw[B6q hr']at ho';obtain⟨q1,q2,q3⟩:=ho;obtain⟨p1,p2,p3⟩:=ho';simp only[JG]at q1 q2 q3;simp only at p1 p2 p3;exact hT.not0 (hk r' (List.mem_of_getElem? hr')) 0 ⟨by simp at q1;omega,by simp at q3;omega,by simp at q3;omega⟩
  ·have e1:0=cb:=ho'.1;have e2:bm=cb:=ho;exact hT.bm0 (e2.trans e1.symm)
  ·exact hne rfl
  ·rw[B6q hr']at ho';have e2:bm=cb:=ho;exact hT.notm (hk r' (List.mem_of_getElem? hr')) (ho'.1.trans e2.symm)
  ·rw[B6q hr]at ho;obtain⟨q1,q2,q3⟩:=ho';obtain⟨p1,p2,p3⟩:=ho;simp only[JG]at q1 q2 q3;simp only at p1 p2 p3;exact hT.not0 (hk r (List.mem_of_getElem? hr)) 0 ⟨by simp at q1;omega,by simp at q3;omega,by simp at q3;omega⟩
  ·rw[B6q hr]at ho;have e2:bm=cb:=ho';exact hT.notm (hk r (List.mem_of_getElem? hr)) (ho.1.trans e2.symm)
  ·rw[B6q hr]at ho;rw[B6q hr']at ho';obtain⟨hi,rfl⟩:=List.getElem?_eq_some_iff.1 hr;obtain⟨hi',rfl⟩:=List.getElem?_eq_some_iff.1 hr';have hij:i≠i':=fun e=>hne (by rw[e])
   rcases Nat.lt_or_gt_of_ne hij with h|h
   ·exact List.pairwise_iff_getElem.1 hp i i' hi hi' h cb o ⟨ho,ho'⟩
   ·exact List.pairwise_iff_getElem.1 hp i' i hi' hi h cb o ⟨ho',ho⟩
 glob g hg:=by
  refine⟨by simp only[stG];omega,?_⟩
  unfold JG;split
  ·next e=>exact⟨e.symm,rfl⟩
  ·exact⟨rfl,rfl⟩
theorem E3s{w':World}{J':Nat->Plc}(hT:Tabl w bm es ck)(hk:∀r∈H,r.Known w)(hS:Sim 1000 (stG w es ck H) J' w')(hst:Step (stG w es ck H) (JG bm H) w (stG w es ck H) J' w'){cb:Nat}(hcb:cb<w.heap.size):w'.heap[cb]?=w.heap[cb]?:=by
 have hJ:∀b,b<(stG w es ck H).next->J' b=JG bm H b:=hst.ext
 have h0:(stG w es ck H).heap 0=some (.cells [.map (some 1000)] false):=rfl;have h1000:(stG w es ck H).heap 1000=some (.map (B3d es) (C1k es) ck):=rfl;by_cases hno:∀o,¬A72 (stG w es ck H) (JG bm H) cb o
 ·have hx:w.heap[cb]?=some w.heap[cb]:=Array.getElem?_eq_getElem hcb;rw[hx];by_cases hc:∃c e f,w.heap[cb]=.cells c e f
  ·obtain⟨c,e,f,hc⟩:=hc;obtain⟨c',g1,g2,g3⟩:=hst.row cb c e f (by rw[hx,hc])
   have:c'=c:=Array.ext_getElem? (fun o=>g3 o (hno o));rw[g1,this,hc]
  ·exact hst.other cb _ hx (fun c e f h=>hc ⟨c,e,f,h⟩) hno
 ·by_cases hm:cb=bm
  ·subst hm;obtain⟨es',k1,k2,k3,k4,_⟩:=hS.obj _ _ h1000;rw[hJ 1000 (by simp only[stG];omega)]at k1
   have e:(JG cb H 1000).cb=cb:=rfl;rw[e]at k1;rw[k1,hT.map];have:es'=es:=by
    apply Array.ext
    ·rw[<-k2];simp[B3d]
    ·intro i hi hi';have hi2:(B3d es)[i]?=some (es[i].key,es[i].val):=by
      simp only[B3d,List.getElem?_map,Array.getElem?_toList,Array.getElem?_eq_getElem hi',Option.map_some]
     obtain⟨v1,v2⟩:=k4 i _ es'[i] hi2 (Array.getElem?_eq_getElem hi);obtain⟨⟨k,e1⟩,f,e2⟩:=hT.ent i es[i] (Array.getElem?_eq_getElem hi');have p1:=B0q v1 (by rw[e1];rfl)
     have p2:=B0q v2 (by rw[e2];rfl)
     have p3:es'[i].born=es[i].born:=by
      have:=congrArg (fun l:List Nat=>l[i]?) k3;simp only[C1k,List.getElem?_map,Array.getElem?_toList,Array.getElem?_eq_getElem hi,Array.getElem?_eq_getElem hi',Option.map_some,Option.some.injEq]at this;exact this
     cases h1:es'[i];cases h2:es[i];rw[h1,h2]at p1 p2 p3;simp only at p1 p2 p3;rw[p1,p2,p3]
   rw[this]
  ·obtain⟨c,e,fr,h1⟩:∃c e fr,w.heap[cb]?=some (.cells c e fr):=by
    obtain⟨o0,ho0⟩:∃o,A72 (stG w es ck H) (JG bm H) cb o:=by
     by_cases hx:∃o,A72 (stG w es ck H) (JG bm H) cb o
     ·exact hx
     ·exact absurd (fun o ho=>hx ⟨o,ho⟩) hno
    obtain⟨b0,x0,hx0,hown0⟩:=ho0;rcases B2a hx0 with⟨rfl,rfl⟩|⟨rfl,rfl⟩|⟨i,r,rfl,hr,rfl⟩
    ·obtain⟨c,e,g1,_⟩:=hT.cell;have:0=cb:=hown0.1;subst this;exact⟨c,e,_,g1⟩
    ·exact absurd (Eq.symm hown0) hm
    ·rw[B6q hr]at hown0;obtain⟨c,e,fr,h1,_⟩:=(hk r (List.mem_of_getElem? hr)).2;have:r.cb=cb:=hown0.1;rw[this]at h1;exact⟨c,e,fr,h1⟩
   obtain⟨c',g1,g2,g3⟩:=hst.row cb c e fr h1;have:c'=c:=by
    apply Array.ext_getElem?;intro o;by_cases ho:A72 (stG w es ck H) (JG bm H) cb o
    ·obtain⟨b,x,hx,hown⟩:=ho;have hx2:=hS.obj _ _ hx;have hlt:=hS.live _ _ hx;rw[hJ b hlt]at hx2;rcases B2a hx with⟨rfl,rfl⟩|⟨rfl,rfl⟩|⟨i,r,rfl,hr,rfl⟩
     ·obtain⟨q1,q2,q3⟩:=hown;have q1:0=cb:=q1;have q3:o<0+1:=q3;have ho:o=0:=by omega
      subst ho;subst q1;obtain⟨_,_,c2,e2,fr2,k1,_,k2,_⟩:=hx2;have k1:w'.heap[0]?=some (.cells c2 e2 fr2):=k1;rw[g1]at k1;cases k1;obtain⟨y,hy,hv⟩:=k2 0 _ rfl;have hy:c'[0]?=some y:=hy;obtain⟨c3,e3,m1,m2⟩:=hT.cell;rw[h1]at m1;cases m1;rw[hy,m2];obtain⟨_,hv'⟩:=hv.map_inv;rw[hv',hJ 1000 (by simp only[stG];omega)]
      rfl
     ·exact absurd (Eq.symm hown) hm
     ·rw[B6q hr]at hown hx2;obtain⟨q1,q2,q3⟩:=hown;simp only at q1 q2 q3;obtain⟨_,_,c2,e2,fr2,k1,_,k2,_⟩:=hx2;simp only at k1 k2;rw[q1,g1]at k1;cases k1;have hlt:o-r.lo<(A2s w r).length:=by simp[A2s];omega
      have hget:=List.getElem?_eq_getElem hlt;obtain⟨y,hy,hv⟩:=k2 (o-r.lo) _ hget;obtain⟨c3,e3,fr3,m1,m2,m3,_⟩:=B3k (hk r (List.mem_of_getElem? hr)) hget;rw[q1,h1]at m1;cases m1;have eo:r.lo+(o-r.lo)=o:=by omega
      rw[eo]at hy m2;rw[hy,m2];exact congrArg some (B0q hv m3)
    ·exact g3 o ho
   rw[g1,h1,this]
end
end Go.Zz
set_option maxRecDepth 20000
set_option linter.all false
namespace Go.Zz
open Go
def A2x{α:Type}{wd:Nat}(E:Enc α wd)(w:World)(a:Option Addr)(len cap:Nat)(xs:List α):Prop:=
 (a=none/\len=0/\cap=0/\xs=[]) \/
 ∃x,a=some x/\len<=cap/\cap<=maxLen/\xs.length=cap/\∀(i:Nat) (v:Value),(E.row xs)[i]?=some v->plain v=true/\w.cell? (x.add i)=some v/\w.frozen? ⟨x.block,x.off+i,none⟩=false
def A3o(a:Option Addr)(n:Nat):List Rng:=match a with
 | some x=>if n=0 then []else [⟨x.block,x.off,n⟩]
 | none=>[]
theorem B36{w:World}{a:Addr}{v:Value}(h:w.cell? a=some v):∃c e fr,w.heap[a.block]?=some (.cells c e fr)/\a.spot=none/\c[a.off]?=some v:=by
 unfold World.cell? at h;split at h
 ·rename_i c e fr hc;split at h
  ·cases h
  ·rename_i hs;exact⟨c,e,fr,hc,by simpa using hs,h⟩
 ·cases h
section
variable {α : Type} {wd : Nat} {E : Enc α wd} {w : World} {a : Option Addr} {len cap : Nat} {xs : List α} {bm ck : Nat} {es : Array MapEntry} {H : List Rng}
theorem A2x.cells{x:Addr}(h:A2x E w (some x) len cap xs)(h0:cap*wd≠0):xs.length=cap/\len<=cap/\cap<=maxLen/\x.spot=none/\
  ∃c e fr,w.heap[x.block]?=some (.cells c e fr)/\(∀(i:Nat) (v:Value),(E.row xs)[i]?=some v->plain v=true/\c[x.off+i]?=some v/\¬(fr.1<=x.off+i/\x.off+i<fr.2)):=by
 rcases h with⟨h,_⟩|⟨y,hy,hl,hm,hz,hc⟩
 ·cases h
 ·cases hy;have hlen:(E.row xs).length=cap*wd:=by rw[Enc.row_length,hz]
  have e0:x.add 0=x:=rfl;obtain⟨_,c0,_⟩:=hc 0 _ (List.getElem?_eq_getElem (by omega))
  rw[e0]at c0;obtain⟨c,e,fr,g1,g2,g3⟩:=B36 c0;refine⟨hz,hl,hm,g2,c,e,fr,g1,fun i v hi=>?_⟩;obtain⟨p1,ci,cf⟩:=hc i v hi;refine⟨p1,?_,?_⟩
  ·by_cases h0:i=0
   ·subst h0;rw[e0]at ci;obtain⟨c',e',fr',k1,_,k3⟩:=B36 ci;rw[g1]at k1;cases k1;simpa using k3
   ·have ea:x.add i=⟨x.block,x.off+i,none⟩:=by simp[Addr.add,h0]
    rw[ea]at ci;obtain⟨c',e',fr',k1,_,k3⟩:=B36 ci;simp only at k1 k3;rw[g1]at k1;cases k1;exact k3
  ·simp only[World.frozen?,g1]at cf;simp at cf;omega
theorem A2x.known(h:A2x E w a len cap xs):∀r∈A3o a (cap*wd),r.Known w:=by
 intro r hr;cases a with
 | none=>simp[A3o]at hr
 | some x=>
  by_cases h0:cap*wd=0
  ·simp[A3o,h0]at hr
  ·simp only[A3o,if_neg h0,List.mem_singleton]at hr;subst hr;obtain⟨hz,_,_,_,c,e,fr,g1,g2⟩:=h.cells h0;refine⟨by simp only;omega,c,e,fr,g1,fun o h1 h2=>?_⟩
   simp only at h1 h2;have hlen:(E.row xs).length=cap*wd:=by rw[Enc.row_length,hz]
   obtain⟨a1,a2,a3⟩:=g2 (o-x.off) _ (List.getElem?_eq_getElem (by omega))
   have eo:x.off+(o-x.off)=o:=by omega
   rw[eo]at a2 a3;exact⟨_,a2,a1,a3⟩
theorem A2x.val(hw:0<wd)(h:A2x E w a len cap xs)(hk:∀r∈H,r.Known w)(hH:∀r∈A3o a (cap*wd),∃q∈H,r.Sub q) :
  ∃v,VR (stG w es ck H).next (JG bm H) false v (.slice a len cap)/\E.In (stG w es ck H) v (xs.take len):=by
 cases a with
 | none=>
  rcases h with⟨_,rfl,rfl,rfl⟩|⟨x,hx,_⟩
  ·exact⟨.slice none 0 0,.one .nilSlice,by simpa using Enc.In.nil⟩
  ·cases hx
 | some x=>
  have hmax:maxLen=9223372036854775807:=rfl;have htop:top=18446744073709551616:=rfl;by_cases h0:cap*wd=0
  ·have hc0:cap=0:=by
    rcases Nat.mul_eq_zero.1 h0 with h|h
    ·exact h
    ·omega
   subst hc0;rcases h with⟨h,_⟩|⟨y,hy,hl,hm,hz,_⟩
   ·cases h
   ·have hl0:len=0:=by omega
    subst hl0;refine⟨.slice (some ⟨1,0,none⟩) 0 0,.one (.slice (by simp only[stG];omega) rfl (Nat.le_refl _) (by omega) (.inl rfl) (.inl rfl)),?_⟩
    have:xs.take 0=[]:=rfl;rw[this];exact⟨.empty,.slice (by simp only[stG];omega),.inr ⟨by omega,Nat.le_refl _⟩⟩
  ·obtain⟨hz,hl,hm,hsp,c,e,fr,g1,g2⟩:=h.cells h0;obtain⟨q,hq,hcb,hlo,hhi⟩:=hH ⟨x.block,x.off,cap*wd⟩ (by simp[A3o,h0])
   simp only at hcb hlo hhi;obtain⟨i,hi,rfl⟩:=List.getElem_of_mem hq;have hgi:H[i]?=some H[i]:=List.getElem?_eq_getElem hi;have hheap:=H0z (w:=w) (es:=es) (ck:=ck) hgi;have hlenr:(E.row xs).length=cap*wd:=by rw[Enc.row_length,hz]
   have hval:∀j,j<cap*wd->(A2s w H[i])[x.off-H[i].lo+j]?=(E.row xs)[j]?:=fun j hj=>by
    have e1:H[i].lo+(x.off-H[i].lo+j)=x.off+j:=by omega
    have hg:=List.getElem?_eq_getElem (l:=E.row xs) (i:=j) (by omega)
    rw[hg];obtain⟨_,a2,_⟩:=g2 j _ hg;simp only[A2s,List.getElem?_map,List.getElem?_range (show x.off-H[i].lo+j<H[i].n by omega),Option.map_some,World.cell?,e1,<-hcb,g1]
    simp[a2]
   refine⟨.slice (some ⟨1001+i,x.off-H[i].lo,none⟩) len cap,.one (.slice (by simp only[stG];omega) rfl hl (by omega) (.inr ?_) (.inl rfl)),?_,.slice (by simp only[stG];omega),.inr ⟨by omega,hl⟩⟩
   ·rw[B6q hgi];cases x with|mk xb xo xs=>
    simp only at hcb hlo hsp;subst hsp;simp only[tr,hcb];congr 1;omega
   ·have hlen:(xs.take len).length=len:=by simp;omega
    have:=Enc.Sl.row (E:=E) (s:=stG w es ck H) (b:=1001+i) (o:=x.off-H[i].lo) (c:=cap) (xs:=xs.take len)
     ⟨(A2s w H[i]).take (x.off-H[i].lo),(A2s w H[i]).drop (x.off-H[i].lo+len*wd),false,?_,?_⟩
    ·rwa [hlen]at this
    ·rw[hheap];congr 2;have hmul:len*wd<=cap*wd:=Nat.mul_le_mul_right _ hl;have hrl:(E.row (xs.take len)).length=len*wd:=by rw[Enc.row_length,hlen]
     have hra:E.row xs=E.row (xs.take len)++E.row (xs.drop len):=by rw[<-Enc.row_append,List.take_append_drop]
     have e3:E.row (xs.take len)=((A2s w H[i]).drop (x.off-H[i].lo)).take (len*wd):=by
      apply List.ext_getElem?;intro j;by_cases hj:j<len*wd
      ·rw[List.getElem?_take_of_lt hj,List.getElem?_drop,hval j (by omega),hra,List.getElem?_append_left (by omega)]
      ·rw[List.getElem?_eq_none (by omega),List.getElem?_eq_none (by simp;omega)]
     rw[e3,<-List.drop_drop,List.take_append_drop,List.take_append_drop]
    ·simp[A2s];omega
end
theorem follows:P.follows .mixedOrders=true:=by kernel_rfl
theorem few:P.funcs.size<=tok0:=of_decide_eq_true (by kernel_rfl)
noncomputable def allX:Y0:=F5e P wips (fun _=>none) 1000 (Nat.le_refl _) follows few (fun _ _ h=>by cases h) (fun _ _ h=>by cases h)
theorem D6f:B9s P 1000 (CC allX):=B66
theorem A6a{f:FuncId}{w:World}{bm ck:Nat}{es:Array MapEntry}{H:List Rng}{args:List Value}{args':Array Value}(hT:Tabl w bm es ck)(hk:∀r∈H,r.Known w)(hp:H.Pairwise Rng.Apart)(hb:A3s P f=true)(hv:VRs (stG w es ck H).next (JG bm H) args args')
  (h:CC allX f args (fun v s=>v=.bool true/\s=stG w es ck H) (stG w es ck H)):Calls P f args' w fun e w'=>e=.returned (.bool true)/\Go.RowKit.Below w.heap.size w w':=by
 have:=D6f.1 f args _ _ h (JG bm H) w args' (F7a hT hk hp) hv hb;rw[callsIn_wide]at this;refine this.mono ?_;rintro e w' ⟨v',rfl,v,s1,J1,⟨rfl,rfl⟩,hvr,hS,hst⟩;rw[hvr.bool_inv];exact⟨rfl,hst.os,hst.tape.1,hst.out,hst.size,fun cb hcb=>E3s hT hk hS hst hcb⟩
theorem E1b{w:World}{ck:Nat}{es:Array MapEntry}{H:List Rng}{ks:List (Int×Value)}(hks:B3d es=ks.map fun p=>(.int .i64 p.1,p.2))(hb:(C1k es).Pairwise (·≠·)/\∀t∈C1k es,t<ck)(hn:(ks.map (·.1)).Nodup)(hg:∀k,1<=k->k<=8->mget ks k=some (kFn k)):A2z (stG w es ck H) (fun _=>0):=by
 refine⟨1000,ks,⟨by simp only[stG];omega,rfl⟩,rfl,rfl,⟨by simp only[stG];omega,⟨C1k es,ck,?_,?_,hb.2,hb.1⟩,hn⟩,hg⟩
 ·show some (AObj.map (B3d es) (C1k es) ck)=_;rw[hks];rfl
 ·have:=congrArg List.length hks;simpa[B3d,C1k]using this
end Go.Zz
set_option maxRecDepth 20000
set_option linter.all false
namespace Go.Zz
open Go Go.ChangeShapes Go.WideShapes Go.ChangeAt Go.WideMaps Go.WideElems Go.RowKit
open Go.Proofs.YtnghaapdoanabaaGreatDoor
def fid(k:Int):Nat:=if k<=3 then 235 else if k=4 then 236 else if k=5 then 238 else if k=6 then 240 else if k=7 then 242 else 243
theorem F8a(k:Int):kFn k=.func (.func (fid k)) #[] #[]:=by
 unfold kFn fid
 repeat' split
 all_goals rfl
theorem G73 : P.globalNamed "erewhile/mind.kinds" = some 0 := by kernel_rfl
theorem G16:(P.globals[0]?).map (·.type)=some 108:=by kernel_rfl
def G6n (i : Nat) : String := if i < 3 then "(*erewhile/mind.Mind).write" else if i = 3 then "erewhile/mind.kinds$1" else if i = 4 then "erewhile/mind.kinds$2" else if i = 5 then "erewhile/mind.kinds$3" else if i = 6 then "erewhile/mind.kinds$4" else "erewhile/mind.kinds$5"
def tok8(i:Nat):List UInt8:=(G6n i).toUTF8.data.toList
theorem out8:(match Rows.laid_erewhile_mind_kinds (H:=Unit)with|.iface _ d=>d.funcsOut|_=>.nil)=.map ((List.range 8).map fun(i:Nat)=>(.int .i64 ((i:Int)+1),.held (tok8 i))):=by kernel_rfl
theorem one8:((List.range 8).map fun(i:Nat)=>P.funcNamed (G6n i))=(List.range 8).map fun(i:Nat)=>some (fid ((i:Int)+1)):=by kernel_rfl
theorem some8:((List.range 8).all fun(i:Nat)=>!(tok8 i).isEmpty)=true:=by kernel_rfl
theorem E3e{a b:String}(h:a.toUTF8.data.toList=b.toUTF8.data.toList):a=b:=by
 have h1:a.toUTF8=b.toUTF8:=ByteArray.ext (Array.toList_inj.1 h);exact String.toByteArray_inj.1 h1
theorem row0:(((begin P (fun _ _=>0) default).world.heap[0]?).bind Obj.row?).isSome=true:=by kernel_rfl
theorem glob0:0<P.globals.size:=of_decide_eq_true (by kernel_rfl)
def C52:Value->Int
 | .int _ n=>n
 | _=>0
theorem u108:P.underlying 108=some (.map 3 107):=by kernel_rfl
theorem u107:P.underlying 107=some (.func #[25,49] #[41] false):=by kernel_rfl
theorem u3:P.underlying 3=some (.int .i64):=by kernel_rfl
theorem F6d{i:Nat}{f:Nat}{g:Func}(hi:i<8)(h:g.name.toUTF8.data.toList=tok8 i)(hg:P.funcNamed g.name=some f):f=fid ((i:Int)+1):=by
 have h1:=congrArg (fun l:List (Option Nat)=>l[i]?) one8;simp only[List.getElem?_map,List.getElem?_range hi,Option.map_some,Option.some.injEq]at h1;rw[E3e h,h1]at hg;exact(Option.some.inj hg).symm
theorem F5h{H:Type}{enc:TypeId×Value->H}{w:World}{base:Nat}{sp:Nat->Bool}{n:Nat}{v:Value}{z:DataW H×List MemPlace}{b:H}(h:elemAt enc P w base sp true n 107 v=some z)(hz:z.1=.held b):(∃fn x y,v=.func fn x y)/\b=enc (107,v):=by
 have hu:=u107;unfold elemAt at h;split at h
 ·rename_i hf;cases n with
  | zero=>simp[DataW.trod]at h
  | succ n=>
   rw[DataW.trod_step]at h;unfold DataW.trodStep at h;rw[hu]at h;cases v<;>simp[Value.formed,hu,Value.cells]at hf h
   ·next fn x y=>
    subst h;simp only[DataW.held.injEq]at hz;exact⟨⟨_,_,_,rfl⟩,hz.symm⟩
   ·subst h;cases hz
 ·cases h
theorem B5z{H:Type}{y:Lit×DataW H}:∀{l:List (Lit×DataW H)},y∈l.foldr DataW.insert []↔y∈l
 | []=>Iff.rfl
 | x::r=>by rw[List.foldr_cons,Go.ChangeMaps.mem_insert_iff,B5z,List.mem_cons]
theorem E17{fn:Fn}{x y:Array Value}{i:Nat}(hi:i<8)(h:funcToken P (107,.func fn x y)=tok8 i):Value.func fn x y=.func (.func (fid ((i:Int)+1))) #[] #[]:=by
 have hne:(tok8 i).isEmpty=false:=by
  have:=List.all_eq_true.1 some8 i (List.mem_range.2 hi);simpa using this
 cases fn with
 | func f=>
  have h':=h;unfold funcToken at h';simp only at h';split at h'
  ·next hb=>
   simp only[Bool.and_eq_true,Array.isEmpty_iff]at hb;obtain⟨rfl,rfl⟩:=hb;cases hg:P.funcs[f]? with
   | none=>rw[hg]at h';rw[<-h']at hne;cases hne
   | some g=>
    rw[hg]at h';simp only at h';split at h'
    ·next hn=>
     have e:=F6d (f:=f) hi h' (by simpa using hn)
     rw[e]
    ·rw[<-h']at hne;cases hne
  ·rw[<-h']at hne;cases hne
 | _=>unfold funcToken at h;rw[<-h]at hne;cases hne
theorem A8n {w : World} (hsh : w.ShapedOpen P) (h : laidMetH P [("erewhile/mind.kinds", Rows.laid_erewhile_mind_kinds)] w) : ∃ bm es ck, Tabl w bm es ck ∧ ∀ H, A2z (stG w es ck H) (fun _ => 0) := by
 have hd8 : ∃ d, Rows.laid_erewhile_mind_kinds (H := Unit) = .iface "func table" d ∧ d.funcsOut = .map ((List.range 8).map fun (i : Nat) => (.int .i64 ((i : Int) + 1), .held (tok8 i))) := ⟨_, rfl, out8⟩
 obtain⟨d,hd,hout⟩:=hd8;obtain ⟨g, t, cs, fuel, p, hg, ht, hv, htr⟩ := laidMetH.funcs h (n := "erewhile/mind.kinds") (d := d) (by rw [hd]; exact List.mem_singleton.2 rfl)
 obtain rfl:=Option.some.inj (G73.symm.trans hg);obtain rfl:=Option.some.inj (G16.symm.trans ht);rw[hout]at htr;rcases open_map u108 htr with⟨_,hx⟩|⟨bm,es,ck,n,rfl,hcs,hb,_,F,hx⟩
 ·simp at hx
 simp only[Prod.mk.injEq,DataW.map.injEq]at hx;have hcell:w.cell? ⟨0,0,none⟩=some (.map (some bm)):=by
  have:=World.var?_cell hg hv 0;rw[Array.eq_one_of_toList hcs]at this;simpa using this
 obtain⟨hborn,hbn,hkn⟩:=F.stamped;have hent:∀y∈es.toList,∃(i:Nat),i<8/\y.key=.int .i64 ((i:Int)+1)/\y.val=.func (.func (fid ((i:Int)+1))) #[] #[]:=fun y hy=>by
  obtain⟨z,hz⟩:=F.reads y hy;have hm:z∈(List.range 8).map fun(i:Nat)=>((.int .i64 ((i:Int)+1),.held (tok8 i)):Lit×DataW (List UInt8)):=by
   rw[hx.1,B5z];exact List.mem_map.2 ⟨y,hy,rg_of hz⟩
  obtain⟨i,hi,rfl⟩:=List.mem_map.1 hm;have hi8:=List.mem_range.1 hi;refine⟨i,hi8,?_,?_⟩
  ·have:=rd_key hz;rw[keyOf_int u3]at this;unfold mapKey at this;rw[u3]at this;cases hk:y.key<;>rw[hk]at this<;>simp at this;obtain⟨⟨rfl,_⟩,e2⟩:=this;rw[e2]
  ·obtain⟨u,hu,e⟩:=rd_val hz;obtain⟨⟨fn,x,y',e1⟩,e2⟩:=F5h hu e.symm;rw[e1]at e2 ⊢;exact E17 hi8 e2.symm
 have hget:∀(i:Nat) (y:MapEntry),es[i]?=some y->y∈es.toList:=fun i y h=>Array.mem_toList_iff.2 (Array.mem_of_getElem? h);refine⟨bm,es,ck,⟨?_,hb,fun i y hy=>?_,fun i y hy=>hborn y (hget i y hy),fun i j y z hij hy hz=>?_⟩,fun H=>?_⟩
 ·obtain⟨c,e,fr,g1,_,g3⟩:=B36 hcell;obtain⟨⟨z0,t0⟩,hz0⟩:=Option.isSome_iff_exists.1 row0;obtain⟨cs',g4,_⟩:=hsh.1 0 z0 t0 glob0 hz0;rw[g1]at g4;cases g4;exact⟨_,_,g1,g3⟩
 ·obtain⟨k,_,e1,e2⟩:=hent y (hget i y hy);exact⟨⟨_,e1⟩,_,e2⟩
 ·have:=List.pairwise_iff_getElem.1 hbn i j (by have:=(Array.getElem?_eq_some_iff.1 hy).1;simpa using this) (by have:=(Array.getElem?_eq_some_iff.1 hz).1;simpa using this) hij
  obtain⟨_,rfl⟩:=Array.getElem?_eq_some_iff.1 hy;obtain⟨_,rfl⟩:=Array.getElem?_eq_some_iff.1 hz;simpa using this
 ·refine E1b (ks:=es.toList.map fun y=>(C52 y.key,y.val)) ?_ ⟨hbn,fun t ht=>?_⟩ ?_ (fun k h1 h8=>?_)
  ·unfold B3d;rw[List.map_map];refine List.map_congr_left (fun y hy=>?_);obtain⟨i,_,e1,e2⟩:=hent y hy;simp only[Function.comp,e1,C52]
  ·obtain⟨y,hy,rfl⟩:=List.mem_map.1 ht;exact hborn y hy
  ·rw[List.map_map];unfold List.Nodup at hkn ⊢;rw[List.pairwise_map]at hkn ⊢;refine List.Pairwise.imp_of_mem (fun {a b} ha hb hne e=>hne ?_) hkn;obtain⟨i,_,e1,_⟩:=hent a ha;obtain⟨j,_,e2,_⟩:=hent b hb;simp only[Function.comp,e1,e2,C52]at e;rw[e1,e2,e]
  ·refine A60 ?_ ?_
   ·rw[List.map_map];unfold List.Nodup at hkn ⊢;rw[List.pairwise_map]at hkn ⊢;refine List.Pairwise.imp_of_mem (fun {a b} ha hb hne e=>hne ?_) hkn;obtain⟨i,_,e1,_⟩:=hent a ha;obtain⟨j,_,e2,_⟩:=hent b hb;simp only[Function.comp,e1,e2,C52]at e;rw[e1,e2,e]
   ·have hm:((.int .i64 (((k-1).toNat:Int)+1),.held (tok8 (k-1).toNat)):Lit×DataW (List UInt8))∈(List.range 8).map fun(i:Nat)=>((.int .i64 ((i:Int)+1),.held (tok8 i)):Lit×DataW (List UInt8)):=List.mem_map.2 ⟨(k-1).toNat,List.mem_range.2 (by omega),rfl⟩
    rw[hx.1,B5z]at hm;obtain⟨y,hy,e⟩:=List.mem_map.1 hm;obtain⟨i,hi,e1,e2⟩:=hent y hy;obtain⟨z,hz⟩:=F.reads y hy;rw[rg_of hz]at e;subst e;have:=rd_key hz;rw[keyOf_int u3,e1]at this;unfold mapKey at this;rw[u3]at this;simp at this;have hik:(i:Int)+1=k:=by omega
    refine List.mem_map.2 ⟨y,hy,?_⟩;rw[e1,e2,F8a,hik];rfl
end Go.Zz
set_option maxRecDepth 20000
set_option linter.all false
namespace Go.Zz
open Go Go.ChangeShapes Go.WideShapes Go.RowKit Go.Deep
section
variable {H : Type} {enc : TypeId × Value → H} {w : World} {α : Type} {wd : Nat} {E : Enc α wd}
theorem Enc.row_get{xs:List α}{q r:Nat}(hq:q<xs.length)(hr:r<wd):(E.row xs)[q*wd+r]?=(E.cells xs[q])[r]?:=by
 rw[Enc.row_split hq];have e1:(E.row (xs.take q)).length=q*wd:=by rw[Enc.row_length];simp[Nat.min_eq_left (Nat.le_of_lt hq)]
 rw[List.getElem?_append_right (by omega),e1,Nat.add_sub_cancel_left,List.getElem?_append_left (by rw[E.len];exact hr)]
theorem A3c{t e:TypeId}{a:Option Addr}{len cap:Nat}{d:DataW H}{p:List MemPlace}{ok:α->Prop}(hw:0<wd)(ht:P.underlying t=some (.slice e))(hc:P.cellsOf e=wd)(hpl:∀x,∀v∈E.cells x,plain v=true)
  (hel:∀(n:Nat) (cs:List Value) (y:DataW H×List MemPlace),DataW.trod enc P w 0 (fun _=>true) true n e cs=some y->∃x,cs=E.cells x/\ok x)
  (h:DataW.Trod enc P w 0 (fun _=>true) true t (.slice a len cap) d p) (hfz:∀b o,MemPlace.cell b o∈p->w.frozen? ⟨b,o,none⟩=false):∃xs,A2x E w a len cap xs/\∀x∈xs,ok x:=by
 obtain⟨fuel,hf⟩:=h;rcases open_slice ht hf with⟨hcs,_⟩|⟨a',len',cap',m,n,D,Pl,hcs,_,hl,hm,hmm,hx,hi⟩
 ·simp[Value.cells]at hcs;obtain⟨rfl,rfl,rfl⟩:=hcs;exact⟨[],.inl ⟨rfl,rfl,rfl,rfl⟩,by simp⟩
 ·simp[Value.cells]at hcs;obtain⟨rfl,rfl,rfl⟩:=hcs;simp only[if_true]at hmm;subst hmm;rw[hc]at hx hi;have hV:∀i,i<m->∃x:α,ok x/\∀j,j<wd->w.cell? (a'.add (i*wd+j))=(E.cells x)[j]?:=fun i hi'=>by
   obtain⟨cs',h1,h2⟩:=hi i hi';obtain⟨x,rfl,hx⟩:=hel _ _ _ h2;obtain⟨_,hlen,hat⟩:=World.cells?_some h1;exact⟨x,hx,fun j hj=>by rw[<-Go.Deep.add_add];exact hat j hj⟩
  by_cases h0:m=0
  ·subst h0;exact⟨[],.inr ⟨a',rfl,hl,hm,rfl,fun i v h=>by simp[Enc.row]at h⟩,by simp⟩
  ·obtain⟨x0,_⟩:=hV 0 (by omega)
   obtain⟨V,hV⟩:∃V:Nat->α,∀i,i<m->ok (V i)/\∀j,j<wd->w.cell? (a'.add (i*wd+j))=(E.cells (V i))[j]?:=
    ⟨fun i=>if h:i<m then(hV i h).choose else x0,fun i hi=>by simp only[dif_pos hi];exact(hV i hi).choose_spec⟩
   refine⟨(List.range m).map V,.inr ⟨a',rfl,hl,hm,by simp,fun i v hv=>?_⟩,fun x hx=>?_⟩
   ·have hil:i<m*wd:=by
     have:=(List.getElem?_eq_some_iff.1 hv).1;rw[Enc.row_length]at this;simpa using this
    have hq:i/wd<m:=Nat.div_lt_of_lt_mul (by rw[Nat.mul_comm];exact hil)
    have hr:i%wd<wd:=Nat.mod_lt _ hw;have hi2:i/wd*wd+i%wd=i:=by rw[Nat.mul_comm];exact Nat.div_add_mod i wd
    have hg:=Enc.row_get (E:=E) (xs:=(List.range m).map V) (q:=i/wd) (r:=i%wd) (by simpa using hq) hr
    rw[hi2,hv]at hg;simp only[List.getElem_map,List.getElem_range]at hg;have hcell:=(hV _ hq).2 _ hr;rw[hi2,<-hg]at hcell;refine⟨hpl _ v (List.mem_of_getElem? hg.symm),hcell,hfz _ _ ?_⟩;have hx2:=congrArg Prod.snd hx;simp only at hx2;rw[hx2];simp only[List.mem_append,MemPlace.row,List.mem_map,List.mem_range];exact .inl ⟨i,hil,rfl⟩
   ·obtain⟨i,hi,rfl⟩:=List.mem_map.1 hx;exact(hV i (List.mem_range.1 hi)).1
theorem F6t{z:Int}(h:(Lit.int .u64 z).wf=true):0<=z:=by
 simp[Lit.wf,IntKind.min,IntKind.max,IntKind.signed,IntKind.bits]at h;omega
theorem u8xrng{z:Int}(h:(Lit.int .u8 z).wf=true):0<=z/\z<256:=by
 simp[Lit.wf,IntKind.min,IntKind.max,IntKind.signed,IntKind.bits]at h;omega
theorem u16xrng{z:Int}(h:(Lit.int .u16 z).wf=true):0<=z/\z<65536:=by
 simp[Lit.wf,IntKind.min,IntKind.max,IntKind.signed,IntKind.bits]at h;omega
theorem c29:P.cellsOf 29=1:=by kernel_rfl
theorem u29:P.underlying 29=some (.int .u16):=by kernel_rfl
noncomputable def fsOf(t:TypeId):Array Field:=match P.underlying t with|some (.struct fs)=>fs|_=>#[]
theorem u72:P.underlying 72=some (.struct (fsOf 72)):=by kernel_rfl
theorem f72:(fsOf 72).toList.map (fun f=>(f.type,f.offset))=[(3,0),(3,1),(3,2)]:=by kernel_rfl
theorem c72:P.cellsOf 72=3:=by kernel_rfl
theorem u46:P.underlying 46=some (.struct (fsOf 46)):=by kernel_rfl
theorem f46:(fsOf 46).toList.map (fun f=>(f.type,f.offset))=[(3,0),(3,1),(3,2)]:=by kernel_rfl
theorem c46:P.cellsOf 46=3:=by kernel_rfl
theorem u60:P.underlying 60=some (.struct (fsOf 60)):=by kernel_rfl
theorem f60:(fsOf 60).toList.map (fun f=>(f.type,f.offset))=[(3,0),(46,1),(43,4),(43,5),(3,6)]:=by kernel_rfl
theorem c60:P.cellsOf 60=7:=by kernel_rfl
theorem c3:P.cellsOf 3=1:=by kernel_rfl
theorem c43:P.cellsOf 43=1:=by kernel_rfl
theorem u43:P.underlying 43=some (.int .u64):=by kernel_rfl
theorem B3o{fs:Array Field}{l:List (TypeId×Nat)}(h:fs.toList.map (fun f=>(f.type,f.offset))=l){i t o:Nat}(hi:l[i]?=some (t,o)):∃f,fs[i]?=some f/\f.type=t/\f.offset=o:=by
 rw[<-h,List.getElem?_map,Array.getElem?_toList]at hi;cases hf:fs[i]? with
 | none=>rw[hf]at hi;cases hi
 | some f=>
  rw[hf]at hi;simp only[Option.map_some,Option.some.injEq,Prod.mk.injEq]at hi;exact⟨f,rfl,hi.1,hi.2⟩
theorem C7k{t n:Nat}{cs:List Value}{y:DataW H×List MemPlace}(hu:P.underlying t=some (.struct (fsOf t)))(hf3:(fsOf t).toList.map (fun f=>(f.type,f.offset))=[(3,0),(3,1),(3,2)])(hc:P.cellsOf t=3)(h:DataW.trod enc P w 0 (fun _=>true) true n t cs=some y):∃a b c:Int,cs=[.int .i64 a,.int .i64 b,.int .i64 c]:=by
 obtain⟨xs,m,_,_,hlen,hxl,hf⟩:=DataW.trod_struct hu h;rw[hc]at hlen;have hsz:(fsOf t).size=3:=by have:=congrArg List.length hf3;simpa using this
 rw[hsz]at hxl
 match cs,hlen,xs,hxl with
 | [v0,v1,v2],_,[x0,x1,x2],_=>
  obtain⟨f0,a0,b0,d0⟩:=B3o hf3 (i:=0) rfl;obtain⟨f1,a1,b1,d1⟩:=B3o hf3 (i:=1) rfl;obtain⟨f2,a2,b2,d2⟩:=B3o hf3 (i:=2) rfl;have g0:=hf 0 f0 a0;have g1:=hf 1 f1 a1;have g2:=hf 2 f2 a2;rw[b0,d0,c3]at g0;rw[b1,d1,c3]at g1;rw[b2,d2,c3]at g2;obtain⟨n0,e0,_⟩:=DataW.trod_int u3 (show DataW.trod enc P w 0 (fun _=>true) true m 3 [v0]=some x0 from g0)
  obtain⟨n1,e1,_⟩:=DataW.trod_int u3 (show DataW.trod enc P w 0 (fun _=>true) true m 3 [v1]=some x1 from g1)
  obtain⟨n2,e2,_⟩:=DataW.trod_int u3 (show DataW.trod enc P w 0 (fun _=>true) true m 3 [v2]=some x2 from g2)
  cases e0;cases e1;cases e2;exact⟨_,_,_,rfl⟩
theorem rule_el(n:Nat)(cs:List Value)(y:DataW H×List MemPlace)(h:DataW.trod enc P w 0 (fun _=>true) true n 72 cs=some y):∃x:RuleM,cs=A3m.cells x/\True:=by
 obtain⟨a,b,c,rfl⟩:=C7k u72 f72 c72 h;exact⟨⟨a,b,c⟩,rfl,trivial⟩
theorem step_el(n:Nat)(cs:List Value)(y:DataW H×List MemPlace)(h:DataW.trod enc P w 0 (fun _=>true) true n 60 cs=some y):∃x:StepM,cs=A3x.cells x/\0<=x.a:=by
 obtain⟨xs,m,_,_,hlen,hxl,hf⟩:=DataW.trod_struct u60 h;rw[c60]at hlen;have hsz:(fsOf 60).size=5:=by have:=congrArg List.length f60;simpa using this
 rw[hsz]at hxl
 match cs,hlen,xs,hxl with
 | [v0,v1,v2,v3,v4,v5,v6],_,[x0,x1,x2,x3,x4],_=>
  obtain⟨f0,a0,b0,d0⟩:=B3o f60 (i:=0) rfl;obtain⟨f1,a1,b1,d1⟩:=B3o f60 (i:=1) rfl;obtain⟨f2,a2,b2,d2⟩:=B3o f60 (i:=2) rfl;obtain⟨f3,a3,b3,d3⟩:=B3o f60 (i:=3) rfl;obtain⟨f4,a4,b4,d4⟩:=B3o f60 (i:=4) rfl;have g0:=hf 0 f0 a0;have g1:=hf 1 f1 a1;have g2:=hf 2 f2 a2;have g3:=hf 3 f3 a3;have g4:=hf 4 f4 a4;rw[b0,d0,c3]at g0;rw[b1,d1,c46]at g1;rw[b2,d2,c43]at g2;rw[b3,d3,c43]at g3;rw[b4,d4,c3]at g4;obtain⟨n0,e0,_⟩:=DataW.trod_int u3 (show DataW.trod enc P w 0 (fun _=>true) true m 3 [v0]=some x0 from g0)
  obtain⟨k1,k2,k3,e1⟩:=C7k u46 f46 c46 (show DataW.trod enc P w 0 (fun _=>true) true m 46 [v1,v2,v3]=some x1 from g1)
  obtain⟨n2,e2,_,hw2⟩:=DataW.trod_int u43 (show DataW.trod enc P w 0 (fun _=>true) true m 43 [v4]=some x2 from g2)
  obtain⟨n3,e3,_⟩:=DataW.trod_int u43 (show DataW.trod enc P w 0 (fun _=>true) true m 43 [v5]=some x3 from g3)
  obtain⟨n4,e4,_⟩:=DataW.trod_int u3 (show DataW.trod enc P w 0 (fun _=>true) true m 3 [v6]=some x4 from g4)
  cases e0;cases e1;cases e2;cases e3;cases e4;exact⟨⟨_,_,_,_,_,_,_⟩,rfl,F6t hw2⟩
theorem u16xel(n:Nat)(cs:List Value)(y:DataW H×List MemPlace)(h:DataW.trod enc P w 0 (fun _=>true) true n 29 cs=some y):∃x:Int,cs=(intE .u16).cells x/\(0<=x/\x<65536):=by
 obtain⟨n',h1,_,hw⟩:=DataW.trod_int u29 h;exact⟨n',h1,u16xrng hw⟩
theorem u16xplain:∀x,∀v∈(intE .u16).cells x,plain v=true:=by
 intro x v hv;simp only[intE,List.mem_cons,List.not_mem_nil,or_false]at hv;subst hv;rfl
theorem rule_plain:∀x,∀v∈A3m.cells x,plain v=true:=by
 intro x v hv;simp only[A3m,List.mem_cons,List.not_mem_nil,or_false]at hv;rcases hv with rfl|rfl|rfl<;>rfl
theorem step_plain:∀x,∀v∈A3x.cells x,plain v=true:=by
 intro x v hv;simp only[A3x,List.mem_cons,List.not_mem_nil,or_false]at hv;rcases hv with rfl|rfl|rfl|rfl|rfl|rfl|rfl<;>rfl
end
theorem handed_shaped{H:Type}{enc:TypeId×Value->H}{a:Assume}{C:Checked}{os:Os}{f:FuncId}{fn:Func}{s:ChangeSpec}{conds:List PathCond}{apart fresh handsOn again:Bool}{X:World->Array Value->Prop}
  (hX:∀(w w':World) (args:Array Value),w.heap=w'.heap->X w args->X w' args)
  (own:ownKnob C.prog.godebug=none) (started:os.Started) (noInit:C.prog.inits.idxOf? f=none) (hfn:C.prog.funcs[f]?=some fn)
  (witness:∃(w:World) (tape:Tape) (i:Input),w.os=os/\(w.forCall tape i).Shaped C.prog/\i.vars=[]/\Input.okWide C.prog (w.forCall tape i) .any w.heap.size f i/\
   ((s.pre enc C.prog fn conds apart (w.forCall tape i).memory i.args/\X (w.forCall tape i).memory i.args)/\sizedMet enc C.prog fn (OpenSpec.ofChange s) apart (w.forCall tape i).memory i.args)/\a.holds C.prog (lone (Frame.enter C.prog f i.args .normal) [] (w.forCall tape i)))
  (contract:∀(W:World) (base:Nat) (args:Array Value) (ds gs:List (DataW H)) (before:List MemPlace),
   (∀(j:Nat) t v,fn.params[j]?=some t->args[j]?=some v->Value.okWide C.prog W .any base t v)->
   DataW.Whole enc C.prog fn.params.toList s.vars apart W args.toList ds gs before->X W args->W.ShapedOpen C.prog->
   Calls C.prog f args W fun e W'=>∃v,e=.returned v/\s.post enc C.prog fn apart fresh handsOn again W args v W') :
  ReturnsInHanded a C os f .any (fun w args=>(s.pre enc C.prog fn conds apart w args/\X w args)/\sizedMet enc C.prog fn (OpenSpec.ofChange s) apart w args) (s.post enc C.prog fn apart fresh handsOn again):=by
 refine returnsInHanded_of_calls own started noInit witness ?_;intro w tape i _ hsh _ hok hpre hholds;obtain⟨_,_,_,fn',hfn',_,_,_,_,hval⟩:=hok;have e:fn'=fn:=Option.some.inj (hfn'.symm.trans hfn);subst e;obtain⟨⟨⟨ds,gs,before,hw,hc⟩,hx⟩,hz⟩:=hpre;have hw':=DataW.Whole.of_heap (w':=w.forCall tape i) (by rfl) hw
 refine(contract (w.forCall tape i) w.heap.size i.args ds gs before hval hw' (hX _ _ _ (by rfl) hx) hsh).mono fun e W' ⟨v,he,hp⟩=>?_
 subst he;exact ChangeSpec.post_blind hp
end Go.Zz
