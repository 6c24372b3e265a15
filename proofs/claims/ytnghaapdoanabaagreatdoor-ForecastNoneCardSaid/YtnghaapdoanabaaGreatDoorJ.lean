import Derived.Test.YtnghaapdoanabaaGreatDoorH
import Derived.Maps.RangeRun
set_option linter.all false
namespace Go.Zz
open Go
variable {P : Program} {G : Nat} {s : St} {J : Nat → Plc} {w : World}
def A82(G:Nat)(s:St)(J:Nat->Plc)(w:World)(k:Post)(v':Value)(w':World):Prop:=
 ∃v s1 J1,k v s1/\VR s1.next J1 false v v'/\Sim G s1 J1 w'/\Step s J w s1 J1 w'
theorem Sim.storeRun(h:Sim G s J w){b:Nat}{vs:List Value}{tail:Bool}(hb:s.heap b=some (.cells vs tail))(o:Nat)(ys:List Value)
  (hfit:o+ys.length<=(J b).ext) (h1:∀v∈ys,v.oneCell'=true):(storeCells ⟨(J b).cb,(J b).k+o,none⟩ ys).run P w=.ok () (w.setCells (J b).cb ((J b).k+o) ys):=by
 obtain⟨g1,g2,c,e,fr,hc,hsz,hv,hone,hfr⟩:=h.obj b _ hb;have:=run_storeCells_cells (P:=P) (J b).cb ((J b).k+o) ys 0 w (fun j hj=>by
   have:(J b).k+o+j<c.size:=by omega
   simp[World.cell?,hc,this]) (fun j hj=>by
   have:=hfr.1 (o+j) (by omega)
   simp only[World.frozen?,hc,Nat.add_zero];simp only[Bool.and_eq_false_iff,decide_eq_false_iff_not];omega) h1
 simpa using this
theorem Sim.put(h:Sim G s J w){b:Nat}{vs:List Value}{tail:Bool}(hb:s.heap b=some (.cells vs tail))(o:Nat)(xs ys:List Value)
  (hl:xs.length=ys.length) (hx:∀(i:Nat) (x y:Value),xs[i]?=some x->ys[i]?=some y->VR s.next J true x y) (ho:o<=vs.length) (hfit:o+xs.length<=(J b).ext) :
  ∃w',(storeCells ⟨(J b).cb,(J b).k+o,none⟩ ys).run P w=.ok () w'/\Sim G (s.put b (.cells (lwr vs o xs) tail)) J w'/\Step s J w (s.put b (.cells (lwr vs o xs) tail)) J w':=by
 obtain⟨h1,h2⟩:=h.write hb o xs ys hl hx ho hfit;refine⟨_,h.storeRun hb o ys (by omega) (fun v hv=>?_),h1,h2⟩
 obtain⟨i,hi,rfl⟩:=List.getElem_of_mem hv;exact(hx i _ _ (List.getElem?_eq_getElem (by omega)) (List.getElem?_eq_getElem hi)).one_right
theorem E09{n:Nat}{a b:Array Value}(h:∀(i:Nat) (x y:Value),a[i]?=some x->b[i]?=some y->VR n J true x y)(i:Nat)(x y:Value)(hx:a.toList[i]?=some x)(hy:b.toList[i]?=some y):VR n J true x y:=
 h i x y (by simpa using hx) (by simpa using hy)
theorem C90(hS:Sim G s J w){t:TypeId}{p p' v v':Value}{k:Post}(h:A7j (A08 P t) p v k s)(hp:VR s.next J false p p')(hv:VR s.next J false v v') :
  ∃w',(Instr.storeAt t p' v').run P w=.ok () w'/\A82 G s J w k undef w':=by
 unfold A7j at h;split at h
 ·rename_i m a hm;obtain⟨i,hi,hsz⟩:=A7w hm;obtain⟨hb,hs,rfl⟩:=hp.ptr_inv;split at h
  ·rename_i vs tail hrow;obtain⟨hd,hn,hle,hk⟩:=h;obtain⟨c1,c2⟩:=hv.cells hd;have hext:=(hS.obj _ _ hrow).1;obtain⟨w',h1,h2,h3⟩:=hS.put (P:=P) hrow a.off v.cells.toList v'.cells.toList (by simpa using c1) (E09 c2) (by omega) (by simp;omega)
   refine⟨w',?_,_,_,J,hk,.dc,h2,h3⟩;have:v'.cells.size=i.size:=by omega
   simp[Instr.storeAt,Instr.sureAddr,storeVar,A1d hi,this,tr,h1]
  ·exact h.elim
 ·exact h.elim
theorem F56{n:Nat}{es:List (Value×Value)}{es':Array MapEntry}(hr:∀(i:Nat) (x:Value×Value) (y:MapEntry),es[i]?=some x->es'[i]?=some y->VR n J false x.1 y.key/\VR n J false x.2 y.val)
  (j:Nat) {k v k' v':Value} (hk:VR n J false k k') (hv:VR n J false v v') (i:Nat) (x:Value×Value) (y:MapEntry) (hx:(es.set j (k,v))[i]?=some x)
  (hy:(es'.modify j fun e=>{ e with key:=k',val:=v' })[i]?=some y):VR n J false x.1 y.key/\VR n J false x.2 y.val:=by
 rw[List.getElem?_set]at hx;rw[Array.getElem?_modify]at hy;by_cases h:j=i
 ·subst h;rw[if_pos rfl]at hx hy;split at hx
  ·cases hx;cases hz:es'[j]? with
   | none=>rw[hz]at hy;cases hy
   | some z=>rw[hz]at hy;cases hy;exact⟨hk,hv⟩
  ·cases hx
 ·rw[if_neg h]at hx hy;exact hr i x y hx hy
theorem C36{d:TypeDesc}{x y x' y':Value}{n:Nat}(h:Instr.sameNow d x y=some true)(hx:VR n J false x x')(hy:VR n J false y y'):Instr.sameBits 10000 y' x'=true:=by
 unfold Instr.sameNow at h;split at h
 ·cases hx.int_inv;cases hy.int_inv;split at h
  ·rename_i hk;subst hk;simp at h;subst h;simp[Instr.sameBits]
  ·cases h
 ·cases hx.string_inv;cases hy.string_inv;simp only[Option.some.injEq]at h;simp only[Instr.sameBits];rw[beq_toListBytes]at h ⊢;simp at h;simp[h]
 ·cases hx.bool_inv;cases hy.bool_inv;simp at h;simp[Instr.sameBits,h]
 ·cases h
theorem A7z{r:Nat}{o o':Obj}(h:w.heap[r]?=some o)(hn:∀c e f,o≠.cells c e f):(setObj r o').run P w=.ok () (World.putObj' w r o'):=by
 cases o<;>first|(exact absurd rfl (hn _ _ _))|simp[setObj,Sem.run,h,World.putObj']
theorem C4a(es':Array MapEntry)(j:Nat)(key' v':Value):(es'.modify j fun e=>{ e with key:=key',val:=v' }).toList.map (·.born)=es'.toList.map (·.born):=by
 apply List.ext_getElem?;intro i;simp only[List.getElem?_map,Array.getElem?_toList,Array.getElem?_modify];split
 ·cases es'[i]?<;>rfl
 ·rfl
theorem B3j{α β:Type}(f:α->β):∀(l:List α) (j:Nat),(l.eraseIdx j).map f=(l.map f).eraseIdx j
 | [],_=>rfl
 | _::_,0=>rfl
 | a::l,j+1=>congrArg (f a::·) (B3j f l j)
theorem B5g(hS:Sim G s J w){t:TypeId}{x x' key key' v v':Value}{k:Post}(h:A3y (tMap P t) x key v k s)(hx:VR s.next J false x x')(hk:VR s.next J false key key')(hv:VR s.next J false v v') :
  ∃w',(Instr.mapUpdate t x' key' v').run P w=.ok () w'/\A82 G s J w k undef w':=by
 unfold A3y at h;split at h
 ·rename_i d z r hm;obtain⟨kt,et,ii,hu,hkt,hi,hz,hzz,hp⟩:=B15 hm;obtain⟨hr,rfl⟩:=hx.map_inv;split at h
  ·rename_i es bs clock hrow;obtain⟨es',hc,hl,hbs,hrel,hb1,hb2⟩:=hS.obj _ _ hrow;have hrel':∀(i:Nat) (x:Value×Value) (y:MapEntry),es[i]?=some x->es'.toList[i]?=some y->VR s.next J false x.1 y.key/\VR s.next J false x.2 y.val:=fun i x y hx hy=>hrel i x y hx (by simpa using hy)
   split at h
   ·rename_i j u hf;obtain⟨r',h1,h2,h3⟩:=A6x hk es es'.toList 0 _ (by simpa using hl) hrel' hf
    obtain⟨u',rfl,hvu,_,hj,e,he,hsame⟩:=h3 _ _ rfl;simp at he hj;have hj':j<es'.size:=by omega
    have hkey:=hrel j e _ he (Array.getElem?_eq_getElem hj');have hbits:Instr.sameBits 10000 (es'[j]).key key'=true:=C36 hsame hk hkey.1;obtain⟨g1,g2⟩:=hS.putMap (es1:=es.set j (key,v)) (bs1:=bs) (c1:=clock) hrow (.map (es'.modify j fun e=>{ e with key:=key',val:=v' }) clock) (fun w' hw'=>by
     refine⟨_,hw',by simp[hl],by rw[<-hbs];exact C4a es' j key' v',F56 hrel j hk hv,fun i y hy=>?_,fun a b y z hab hy hz=>?_⟩
     ·rw[Array.getElem?_modify]at hy;split at hy
      ·cases hz0:es'[i]? with
       | none=>rw[hz0]at hy;cases hy
       | some z0=>rw[hz0]at hy;cases hy;exact hb1 i z0 hz0
      ·exact hb1 i y hy
     ·rw[Array.getElem?_modify]at hy hz;have e1:∃y0,es'[a]?=some y0/\y0.born=y.born:=by
       split at hy
       ·cases hz0:es'[a]? with
        | none=>rw[hz0]at hy;cases hy
        | some z0=>rw[hz0]at hy;cases hy;exact⟨z0,rfl,rfl⟩
       ·exact⟨y,hy,rfl⟩
      have e2:∃z0,es'[b]?=some z0/\z0.born=z.born:=by
       split at hz
       ·cases hz0:es'[b]? with
        | none=>rw[hz0]at hz;cases hz
        | some z0=>rw[hz0]at hz;cases hz;exact⟨z0,rfl,rfl⟩
       ·exact⟨z,hz,rfl⟩
      obtain⟨y0,e1,e1'⟩:=e1;obtain⟨z0,e2,e2'⟩:=e2;rw[<-e1',<-e2'];exact hb2 a b y0 z0 hab e1 e2)
    refine⟨_,?_,_,_,J,h,.dc,g1,g2⟩;have hfk:(Instr.findKey kt key' es'.toList).run P w=.ok (some (j,u')) w:=by simp[Instr.findKey,run_underlying hkt,h1]
    have hkeep:(Instr.keyThatStays (es'[j]).key key').run P w=.ok key' w:=by simp[Instr.keyThatStays,hbits]
    simp only[Instr.mapUpdate,Sem.run_bind,run_underlying hu,Result.andThen_ok,A5w hc,A3d hkt hp,hfk];simp[hj',hkeep];exact A7z hc (by intro c e f hh;cases hh)
   ·rename_i hf;obtain⟨r',h1,h2,h3⟩:=A6x hk es es'.toList 0 _ (by simpa using hl) hrel' hf
    cases h2 rfl;obtain⟨g1,g2⟩:=hS.putMap (es1:=es++[(key,v)]) (bs1:=bs++[clock]) (c1:=clock+1) hrow (.map (es'.push { key:=key',val:=v',born:=clock }) (clock+1)) (fun w' hw'=>by
     refine⟨_,hw',by simp[hl],by simp[hbs],fun i x y hx hy=>?_,fun i y hy=>?_,fun a b y z hab hy hz=>?_⟩
     ·rw[Array.getElem?_push]at hy;by_cases hi:i=es'.size
      ·rw[if_pos hi]at hy;cases hy;rw[List.getElem?_append_right (by omega),hi,hl]at hx
       simp at hx;rw[<-hx];exact⟨hk,hv⟩
      ·rw[if_neg hi]at hy;have:i<es'.size:=(Array.getElem?_eq_some_iff.1 hy).1;rw[List.getElem?_append_left (by omega)]at hx
       exact hrel i x y hx hy
     ·rw[Array.getElem?_push]at hy;split at hy
      ·cases hy;simp
      ·have:=hb1 i y hy;omega
     ·rw[Array.getElem?_push]at hy hz;by_cases hb:b=es'.size
      ·rw[if_pos hb]at hz;cases hz;rw[if_neg (by omega)]at hy
       exact fun e=>by have:=hb1 a y hy;simp only at e;omega
      ·rw[if_neg hb]at hz;have:b<es'.size:=(Array.getElem?_eq_some_iff.1 hz).1;rw[if_neg (by omega)]at hy
       exact hb2 a b y z hab hy hz)
    refine⟨_,?_,_,_,J,h,.dc,g1,g2⟩;have hfk:(Instr.findKey kt key' es'.toList).run P w=.ok none w:=by simp[Instr.findKey,run_underlying hkt,h1]
    simp only[Instr.mapUpdate,Sem.run_bind,run_underlying hu,Result.andThen_ok,A5w hc,A3d hkt hp,hfk];exact A7z hc (by intro c e f hh;cases hh)
   ·exact h.elim
  ·exact h.elim
 ·exact h.elim
theorem C3u{r:Nat}{o:Obj}(h:w.heap[r]?=some o):World.putObj' w r o=w:=by
 have:w.heap.setIfInBounds r o=w.heap:=by
  apply Array.ext_getElem?;intro i;rw[Array.getElem?_setIfInBounds];by_cases hi:r=i
  ·subst hi;rw[if_pos rfl,if_pos (Array.getElem?_eq_some_iff.1 h).1,h]
  ·rw[if_neg hi]
 simp[World.putObj',this]
theorem E44(hS:Sim G s J w){t ty:TypeId}{x x' key key':Value}{k:Post}(h:delW (tMap P t) x key k s)(hx:VR s.next J false x x')(hk:VR s.next J false key key'){ts:Array TypeId}(hts:ts[0]?=some t) :
  ∃w',(Builtin.delete_ ts ty #[x',key']).run P w=.ok (.tuple #[]) w'/\A82 G s J w k (.tuple #[]) w':=by
 unfold delW at h;split at h
 ·rename_i dz hm;obtain⟨d,z⟩:=dz;obtain⟨kt,et,ii,hu,hkt,hi,hz,hzz,hp⟩:=B15 hm;cases hx.nilMap_inv;exact⟨w,by simp[Builtin.delete_,hts,run_underlying hu,A3d hkt hp],_,s,J,h,.dc,hS,.refl _ _ _⟩
 ·rename_i d z r hm;obtain⟨kt,et,ii,hu,hkt,hi,hz,hzz,hp⟩:=B15 hm;obtain⟨hr,rfl⟩:=hx.map_inv;split at h
  ·rename_i es bs clock hrow;obtain⟨es',hc,hl,hbs,hrel,hb1,hb2⟩:=hS.obj _ _ hrow;have hrel':∀(i:Nat) (x:Value×Value) (y:MapEntry),es[i]?=some x->es'.toList[i]?=some y->VR s.next J false x.1 y.key/\VR s.next J false x.2 y.val:=fun i x y hx hy=>hrel i x y hx (by simpa using hy)
   split at h
   ·rename_i j u hf;obtain⟨r',h1,h2,h3⟩:=A6x hk es es'.toList 0 _ (by simpa using hl) hrel' hf
    obtain⟨u',rfl,hvu,_,hj,e,he,hsame⟩:=h3 _ _ rfl;simp at he hj;have hj':j<es'.size:=by omega
    have herase:(es'.eraseIdxIfInBounds j).toList=es'.toList.eraseIdx j:=by simp[Array.eraseIdxIfInBounds,hj']
    have hget:∀i,(es'.eraseIdxIfInBounds j)[i]?=if i<j then es'[i]? else es'[i+1]?:=fun i=>by
     rw[<-Array.getElem?_toList,herase,List.getElem?_eraseIdx];simp
    obtain⟨g1,g2⟩:=hS.putMap (es1:=es.eraseIdx j) (bs1:=bs.eraseIdx j) (c1:=clock) hrow (.map (es'.eraseIdxIfInBounds j) clock) (fun w' hw'=>by
     refine⟨_,hw',?_,by rw[herase,<-hbs,B3j],fun i x y hx hy=>?_,fun i y hy=>?_,fun a b y z hab hy hz=>?_⟩
     ·rw[<-Array.length_toList,herase,List.length_eraseIdx,List.length_eraseIdx];simp[hl]
     ·rw[List.getElem?_eraseIdx]at hx;rw[hget]at hy;split at hx
      ·rw[if_pos (by assumption)]at hy;exact hrel i x y hx hy
      ·rw[if_neg (by assumption)]at hy;exact hrel _ x y hx hy
     ·rw[hget]at hy;split at hy
      ·exact hb1 _ y hy
      ·exact hb1 _ y hy
     ·rw[hget]at hy hz;split at hy
      ·split at hz
       ·exact hb2 a b y z hab hy hz
       ·exact hb2 a (b+1) y z (by omega) hy hz
      ·rw[if_neg (by omega)]at hz
       exact hb2 (a+1) (b+1) y z (by omega) hy hz)
    refine⟨_,?_,_,_,J,h,.dc,g1,g2⟩;have hfk:(Instr.findKey kt key' es'.toList).run P w=.ok (some (j,u')) w:=by simp[Instr.findKey,run_underlying hkt,h1]
    have hset:=A7z (P:=P) (o':=.map (es'.eraseIdxIfInBounds j) clock) hc (by intro c e f hh;cases hh)
    simp[Builtin.delete_,hts,run_underlying hu,A5w hc,A3d hkt hp,hfk,hset]
   ·rename_i hf;obtain⟨r',h1,h2,h3⟩:=A6x hk es es'.toList 0 _ (by simpa using hl) hrel' hf
    cases h2 rfl;refine⟨w,?_,_,s,J,h,.dc,hS,.refl _ _ _⟩;have hfk:(Instr.findKey kt key' es'.toList).run P w=.ok none w:=by simp[Instr.findKey,run_underlying hkt,h1]
    have hset:=A7z (P:=P) (o':=.map es' clock) hc (by intro c e f hh;cases hh)
    rw[C3u hc]at hset;simp[Builtin.delete_,hts,run_underlying hu,A5w hc,A3d hkt hp,hfk,hset]
   ·exact h.elim
  ·exact h.elim
 ·exact h.elim
theorem A93(hS:Sim G s J w){z:Nat}{a:Option Addr}{l c:Nat}{x':Value}{cs:List Value}(h:A0z z (.slice a l c) s=some cs)(hx:VR s.next J false (.slice a l c) x') :
  ∃a' c',x'=.slice a' l c'/\cs.length=l*z/\∃ys:List Value,ys.length=cs.length/\(∀(i:Nat) (x y:Value),cs[i]?=some x->ys[i]?=some y->VR s.next J true x y)/\
   ∀w2,A55 w w2->∀(j:Nat) (u:Value),ys[j]?=some u->∃b,a'=some b/\w2.cell? (b.add j)=some u:=by
 cases a with
 | none=>
  obtain⟨rfl,rfl,rfl⟩:=hx.nilSlice_inv;simp[A0z]at h;subst h;exact⟨none,0,rfl,by simp,[],rfl,fun i x y hx=>by simp at hx,fun w2 _ j u hu=>by simp at hu⟩
 | some a=>
  obtain⟨a',c',rfl,hb,hs,hl,hc,ha,hcap⟩:=hx.slice_inv;simp only[A0z]at h;split at h
  ·rename_i hl0;cases h;exact⟨some a',c',rfl,by simp[hl0],[],rfl,fun i x y hx=>by simp at hx,fun w2 _ j u hu=>by simp at hu⟩
  ·rename_i hl0;split at h
   ·rename_i vs tail hrow;split at h
    ·rename_i hle;cases h;obtain⟨ys,h1,h2,h3⟩:=hS.cells hrow hle;have ha':a'=tr (J a.block) a:=ha.resolve_left (by omega)
     refine⟨some a',c',rfl,by simp;omega,ys,by simp;omega,h2,fun w2 hw j u hu=>⟨a',rfl,?_⟩⟩
     rw[ha'];exact h3 w2 hw j u hu
    ·cases h
   ·cases h
theorem A6g{z m:Nat}{a':Option Addr}{l c:Nat}{ys:List Value}(hl:ys.length=m*z)(h:∀(j:Nat) (u:Value),ys[j]?=some u->∃b,a'=some b/\w.cell? (b.add j)=some u) :
  (Builtin.firstCells z m (.slice a' l c)).run P w=.ok ys.toArray w:=by
 cases a' with
 | none=>
  cases ys with
  | nil=>simp[Builtin.firstCells]
  | cons y r=>obtain⟨b,hb,_⟩:=h 0 y rfl;cases hb
 | some b=>exact run_firstCells_some w z m b l c ys hl (fun j v hj=>by obtain⟨b',hb,hc⟩:=h j v hj;cases hb;exact hc)
theorem B1i{n:Nat}(b:ByteArray)(i:Nat)(x y:Value)(hx:(A2u b)[i]?=some x)(hy:(A2u b)[i]?=some y):VR n J true x y:=by
 rw[hx]at hy;cases hy;simp only[A2u,List.getElem?_map]at hx;cases hb:b.data.toList[i]? with
 | none=>rw[hb]at hx;cases hx
 | some u=>rw[hb]at hx;cases hx;exact .int _ _
theorem D33(hS:Sim G s J w){t e ty:TypeId}{z b:Nat}{zero:List Value}(ht:A0e P t=some (e,z,b,zero)){x x' y y':Value}{k:Post}(h:B45 z x y k s)
  (hx:VR s.next J false x x') (hy:VR s.next J false y y') {ts:Array TypeId} (hts:ts[0]?=some t) :
  ∃v' w',(Builtin.copy_ ts ty #[x',y']).run P w=.ok v' w'/\A82 G s J w k v' w':=by
 obtain⟨hu,ii,zv,hi,hsz,hbb,hzv,hp,hzl,hzlen,hpos⟩:=A3b ht;have src:∀m cs,(match y with|.string b=>if z=1 then some (b.size,A2u b)else none|.slice a l c=>(A0z z (.slice a l c) s).map fun cs=>(l,cs)|_=>none)=some (m,cs)->
   cs.length=m*z/\(∀w2,(Builtin.lenOf y').run P w2=.ok m w2)/\∀n,n<=m->∃ys:List Value,ys.length=n*z/\(∀(i:Nat) (x y:Value),(cs.take (n*z))[i]?=some x->ys[i]?=some y->VR s.next J true x y)/\
    (Builtin.firstCells z n y').run P w=.ok ys.toArray w:=by
  intro m cs hm;split at hm
  ·rename_i bs;split at hm
   ·rename_i hz1;cases hm;cases hy.string_inv;refine⟨by simp[A2u,hz1],fun w2=>by simp[Builtin.lenOf],fun n hn=>⟨(A2u bs).take n,?_,fun i x y hx hy=>?_,?_⟩⟩
    ·simp[A2u,hz1];exact Nat.min_eq_left hn
    ·rw[hz1,Nat.mul_one]at hx;have hin:i<n:=by have:=(List.getElem?_eq_some_iff.1 hx).1;simp at this;omega
     rw[List.getElem?_take_of_lt hin]at hx hy;exact B1i bs i x y hx hy
    ·simp only[Builtin.firstCells,Sem.run_pure];congr 1;apply Array.ext';simp only[A2u,<-List.map_take];simp[ByteArray.extract,ByteArray.copySlice]
   ·cases hm
  ·rename_i a l c;cases hsc:A0z z (.slice a l c) s with
   | none=>rw[hsc]at hm;cases hm
   | some cs'=>
    rw[hsc]at hm;cases hm;obtain⟨a',c',rfl,hlen,ys,hyl,hrel,hcell⟩:=A93 hS hsc hy;refine⟨hlen,fun w2=>by simp[Builtin.lenOf],fun n hn=>⟨ys.take (n*z),?_,fun i x y hx hy=>?_,?_⟩⟩
    ·rw[List.length_take,hyl,hlen];exact Nat.min_eq_left (Nat.mul_le_mul_right _ hn)
    ·have hin:i<n*z:=by have:=(List.getElem?_eq_some_iff.1 hx).1;simp at this;omega
     rw[List.getElem?_take_of_lt hin]at hx hy;exact hrel i x y hx hy
    ·refine A6g ?_ (fun j u hj=>hcell w (A55.refl w) j u ?_)
     ·rw[List.length_take,hyl,hlen];exact Nat.min_eq_left (Nat.mul_le_mul_right _ hn)
     ·have hin:j<n*z:=by have:=(List.getElem?_eq_some_iff.1 hj).1;simp at this;omega
      rwa [List.getElem?_take_of_lt hin]at hj
  ·cases hm
 unfold B45 at h;split at h
 ·rename_i mc hm;obtain⟨m,cs⟩:=mc;obtain⟨h1,h2,h3⟩:=src m cs hm;obtain⟨_,_,rfl⟩:=hx.nilSlice_inv;obtain⟨ys,g1,g2,g3⟩:=h3 0 (Nat.zero_le _);refine⟨.int .i64 0,w,?_,_,s,J,h,.one (.int _ _),hS,.refl _ _ _⟩;simp[Builtin.copy_,hts,run_underlying hu,h2,A1d hi,hsz,g3,goInt]
 ·rename_i m cs a l c hm;obtain⟨h1,h2,h3⟩:=src m cs hm;obtain⟨a',c',rfl,hb,hs,hl,hc,ha,hcap⟩:=hx.slice_inv;obtain⟨ys,g1,g2,g3⟩:=h3 (Nat.min m l) (Nat.min_le_left _ _);split at h
  ·rename_i h0;rw[h0]at g1 g3;have:ys=[]:=by simpa using g1
   subst this;refine⟨.int .i64 0,w,?_,_,s,J,h,.one (.int _ _),hS,.refl _ _ _⟩;simp[Builtin.copy_,hts,run_underlying hu,h2,A1d hi,hsz,h0,g3,goInt,storeCells]
  ·rename_i h0;split at h
   ·rename_i vs tail hrow;obtain⟨hle,hk⟩:=h;have ha':a'=tr (J a.block) a:=ha.resolve_left (by
     have:Nat.min m l<=l:=Nat.min_le_right _ _;omega)
    have hxl:(cs.take (Nat.min m l*z)).length=Nat.min m l*z:=by
     rw[List.length_take,h1];exact Nat.min_eq_left (Nat.mul_le_mul_right _ (Nat.min_le_left _ _))
    have hext:=(hS.obj _ _ hrow).1;obtain⟨w',e1,e2,e3⟩:=hS.put (P:=P) hrow a.off (cs.take (Nat.min m l*z)) ys (by omega) g2 (by omega) (by omega)
    refine⟨.int .i64 (Nat.min m l),w',?_,_,_,J,hk,.one (.int _ _),e2,e3⟩;subst ha';simp[Builtin.copy_,hts,run_underlying hu,h2,A1d hi,hsz,g3,goInt,tr,e1]
   ·exact h.elim
 ·exact h.elim
theorem B0p{t:TypeId}(h:A22 P t=true):∃k e,P.underlying t=some (.map k e):=by
 unfold A22 at h;split at h
 ·exact⟨_,_,by assumption⟩
 ·cases h
theorem A2y(z:Array Value)(n:Nat):Builtin.zeroCells z n=madeCells z (n*z.size):=rfl
theorem C9o(hS:Sim G s J w){t ty:TypeId}{x x':Value}{k:Post}(h:A6d P t x k s)(hx:VR s.next J false x x') :
  ∃v' w',(Builtin.clear_ #[t] ty #[x']).run P w=.ok v' w'/\A82 G s J w k v' w':=by
 unfold A6d at h;split at h
 ·obtain⟨hm,hk⟩:=h;obtain⟨kt,e,hu⟩:=B0p hm;cases hx.nilMap_inv;exact⟨_,w,by simp[Builtin.clear_,run_underlying hu];rfl,_,s,J,hk,.dc,hS,.refl _ _ _⟩
 ·obtain⟨hm,h⟩:=h;obtain⟨kt,e,hu⟩:=B0p hm;obtain⟨hr,rfl⟩:=hx.map_inv;split at h
  ·rename_i es bs clock hrow;obtain⟨es',hc,hl,hbs,hrel,hb1,hb2⟩:=hS.obj _ _ hrow;obtain⟨g1,g2⟩:=hS.putMap (es1:=[]) (bs1:=[]) (c1:=clock) hrow (.map #[] clock) (fun w' hw'=>⟨#[],hw',rfl,rfl,fun i x y hx=>by simp at hx,fun i y hy=>by simp at hy,fun i j y z _ hy=>by simp at hy⟩)
   have hset:=A7z (P:=P) (o':=.map #[] clock) hc (by intro c e f hh;cases hh)
   exact⟨.tuple #[],_,by simp[Builtin.clear_,run_underlying hu,A5w hc,hset],_,_,J,h,.dc,g1,g2⟩
  ·exact h.elim
 ·obtain⟨hm,hk⟩:=h;obtain⟨q,hq⟩:=Option.isSome_iff_exists.1 hm;obtain⟨e,z,b,zero⟩:=q;obtain⟨hu,_⟩:=A3b hq;obtain⟨_,_,rfl⟩:=hx.nilSlice_inv;exact⟨_,w,by simp[Builtin.clear_,run_underlying hu];rfl,_,s,J,hk,.dc,hS,.refl _ _ _⟩
 ·rename_i a l c;split at h
  ·rename_i e z b zero hq;obtain⟨hu,ii,zv,hi,hsz,hbb,hzv,hp,hzl,hzlen,hpos⟩:=A3b hq;obtain⟨a',c',rfl,hb,hs,hl,hc,ha,hcap⟩:=hx.slice_inv;split at h
   ·rename_i h0;subst h0;exact⟨_,w,by simp[Builtin.clear_,run_underlying hu];rfl,_,s,J,h,.dc,hS,.refl _ _ _⟩
   ·rename_i h0;split at h
    ·rename_i vs tail hrow;obtain⟨hle,hk⟩:=h;have ha':a'=tr (J a.block) a:=ha.resolve_left (by omega)
     subst ha';have hext:=(hS.obj _ _ hrow).1;have hzr:=A85 (n:=s.next) (J:=J) hzl hp (l*z)
     have hzsz:zv.cells.size=z:=by rw[<-hzlen,<-hzl];simp
     have hlen1:(A2q zero (l*z)).length=l*z:=by simp[A2q]
     obtain⟨w',e1,e2,e3⟩:=hS.put (P:=P) hrow a.off (A2q zero (l*z)) (madeCells zv.cells (l*z)).toList (by simpa using hzr.1) (fun i x y hx hy=>hzr.2 i x y (by simpa using hx) (by simpa using hy)) (by omega) (by omega)
     refine⟨.tuple #[],w',?_,_,_,J,hk,.dc,e2,e3⟩;have hz2:Builtin.zeroCells zv.cells l=madeCells zv.cells (l*z):=by rw[A2y,hzsz]
     cases l with
     | zero=>exact absurd rfl h0
     | succ l=>
      simp[Builtin.clear_,run_underlying hu,A1a hi hzv,hz2,tr,e1]
    ·exact h.elim
  ·exact h.elim
 ·exact h.elim
theorem E13(hS:Sim G s J w){t ty:TypeId}{x x':Value}{k:Post}(h:capW P t x k s)(hx:VR s.next J false x x') :
  ∃v',(Builtin.cap_ #[t] ty #[x']).run P w=.ok v' w/\A82 G s J w k v' w:=by
 unfold capW at h;split at h
 ·rename_i q l c hq;obtain⟨e,z,b,zero⟩:=q;obtain⟨hu,_⟩:=A3b hq;obtain⟨rfl,rfl,rfl⟩:=hx.nilSlice_inv;exact⟨_,by simp[Builtin.cap_,run_underlying hu];rfl,_,s,J,h,.one (.int _ _),hS,.refl _ _ _⟩
 ·rename_i e z b zero a l c hq;obtain⟨hu,ii,zv,hi,hsz,hbb,hzv,hp,hzl,hzlen,hpos⟩:=A3b hq;obtain⟨a',c',rfl,hb,hs,hl,hc,ha,hcap⟩:=hx.slice_inv;have hrun:(Builtin.cap_ #[t] ty #[.slice (some a') l c']).run P w=.ok (.int .i64 c') w:=by simp[Builtin.cap_,run_underlying hu,goInt]
  split at h
  ·rename_i hct;have:c=c':=by
    rcases hcap with h0|⟨h0,_⟩
    ·exact h0
    ·exfalso;omega
   subst this;exact⟨_,hrun,_,s,J,h,.one (.int _ _),hS,.refl _ _ _⟩
  ·rename_i hct;obtain⟨hc0,h⟩:=h;split at h
   ·rename_i vs tail hrow;have hw:z=(J a.block).w/\0<(J a.block).w/\a.off+c'*(J a.block).w=(J a.block).ext:=by
     rcases hcap with h0|⟨h0,h3,h4⟩
     ·exfalso;unfold top at *;omega
     ·exact⟨by unfold top at *;omega,h3,h4⟩
    obtain⟨w1,w2,w3⟩:=hw;have hR:=hS.obj _ _ hrow;obtain⟨h1,h2,cc,ee,fr,hcc,hsz',hv,hone,hfr⟩:=hR;rw[w1]at h;have hk:=h c' hl hc (by omega) (fun ht=>by have:=h2 ht;omega)
    refine⟨_,hrun,_,_,J,hk,.one (.int _ _),⟨?_,?_,?_,hS.glob⟩,⟨Nat.le_refl _,fun _ _=>rfl,Nat.le_refl _,rfl,rfl,⟨rfl,Nat.le_refl _⟩,?_,fun cb c e f hc=>⟨c,hc,rfl,fun _ _=>rfl⟩,fun cb x hx _ _=>hx,fun cb r h=>⟨r,h⟩⟩⟩
    ·intro b y hy;simp only[St.put]at hy ⊢;split at hy
     ·rename_i he;subst he;exact hS.live _ _ hrow
     ·exact hS.live b y hy
    ·intro b y hy;simp only[St.put]at hy ⊢;split at hy
     ·rename_i he;cases hy;subst he;refine⟨by simp;omega,fun _=>by simp;omega,cc,ee,fr,hcc,hsz',fun i x hx=>?_,hone,hfr.1,(fun he=>nomatch he)⟩
      by_cases hi:i<vs.length
      ·rw[List.getElem?_append_left hi]at hx;exact hv i x hx
      ·rw[List.getElem?_append_right (by omega)]at hx
       have hlt:=(List.getElem?_eq_some_iff.1 hx).1;simp at hlt;obtain⟨y,hy,hy1⟩:=hone i (by omega)
       have hxu:x=undef:=List.eq_of_mem_replicate (List.mem_of_getElem? hx);subst hxu;exact⟨y,hy,.dc1 hy1⟩
     ·exact hS.obj b y hy
    ·intro b1 b2 y1 y2 cb o' hne hy1 hy2 ho1 ho2;simp only[St.put]at hy1 hy2;split at hy1
     ·rename_i he1;cases hy1;split at hy2
      ·omega
      ·subst he1;exact hS.apart _ b2 _ y2 cb o' hne hrow hy2 ho1 ho2
     ·split at hy2
      ·rename_i he2;cases hy2;subst he2;exact hS.apart b1 _ y1 _ cb o' hne hy1 hrow ho1 ho2
      ·exact hS.apart b1 b2 y1 y2 cb o' hne hy1 hy2 ho1 ho2
    ·rintro cb o _ hn ⟨b,y,hy,ho⟩;simp only[St.put]at hy;split at hy
     ·rename_i he;cases hy;exact hn ⟨a.block,_,hrow,by rw[he]at ho;exact ho⟩
     ·exact hn ⟨b,y,hy,ho⟩
   ·exact h.elim
 ·exact h.elim
end Go.Zz
namespace Go.Zz
open Go
variable {P : Program} {G : Nat} {s : St} {J : Nat → Plc} {w : World}
theorem VRa.append{n:Nat}{a a' b b':Array Value}(h:VRa n J a a')(h':VRa n J b b'):VRa n J (a++b) (a'++b'):=by
 refine⟨by simp[h.1,h'.1],fun i x y hx hy=>?_⟩
 by_cases hi:i<a.size
 ·rw[Array.getElem?_append_left hi]at hx;rw[Array.getElem?_append_left (by rw[<-h.1];exact hi)]at hy
  exact h.2 i x y hx hy
 ·rw[Array.getElem?_append_right (by omega)]at hx
  rw[Array.getElem?_append_right (by have:=h.1;omega),<-h.1]at hy
  exact h'.2 _ x y hx hy
theorem Sim.grown(h:Sim G s J w){cells:List Value}{cs rest:Array Value}{e:TypeId}{z:Nat}(hr:VRa s.next J cells.toArray cs)(ho:∀v∈rest,v.oneCell'=true)
  {nl c:Nat} (hz:0<z) (hc:c<=9223372036854775807) (hnl:nl<=c) (hsz:(cs++rest).size=c*z) :
  ∃J',VR (s.next+1) J' false (.slice (some ⟨s.next,0,none⟩) nl (top+z)) (.slice (some ⟨w.heap.size,0,none⟩) nl c)/\
   Sim G (s.alloc (.cells cells true)) J' (w.drew.alloc (.cells (cs++rest) e))/\Step s J w (s.alloc (.cells cells true)) J' (w.drew.alloc (.cells (cs++rest) e)):=by
 have hlen:cells.length=cs.size:=by simpa using hr.1
 have hJ:∀b,b<s.next->putJ J s.next ⟨w.heap.size,0,c*z,z⟩ b=J b:=fun b hb=>by simp[putJ,Nat.ne_of_lt hb]
 have hall:∀i,i<c*z->∃y,(cs++rest)[i]?=some y/\y.oneCell'=true:=fun i hi=>by
  have hi':i<(cs++rest).size:=by omega
  refine⟨_,Array.getElem?_eq_getElem hi',?_⟩;by_cases h1:i<cs.size
  ·rw[Array.getElem_append_left h1];have h2:i<cells.toArray.size:=by rw[hr.1];exact h1
   exact(hr.2 i _ _ (Array.getElem?_eq_getElem h2) (Array.getElem?_eq_getElem h1)).one_right
  ·rw[Array.getElem_append_right (by omega)]
   exact ho _ (Array.getElem_mem _)
 have hO:ObjR (s.next+1) (putJ J s.next ⟨w.heap.size,0,c*z,z⟩) ⟨w.heap.size,0,c*z,z⟩ (w.drew.alloc (.cells (cs++rest) e)) (.cells cells true):=by
  refine⟨?_,(fun he=>nomatch he),cs++rest,e,(0,0),(by show(w.drew.heap.push _)[w.heap.size]?=_;exact Array.getElem?_push_size),?_,fun i x hx=>?_,fun i hi=>?_,fun i _ hh=>?_,fun _=>rfl⟩
  ·show cells.length<=c*z;have:cs.size<=(cs++rest).size:=by simp
   omega
  ·show 0+c*z<=(cs++rest).size;omega
  ·have hi:i<cs.size:=by rw[<-hlen];exact(List.getElem?_eq_some_iff.1 hx).1
   have hg:=Array.getElem?_eq_getElem (xs:=cs) (i:=i) hi;refine⟨cs[i],?_,(hr.2 i x _ (by simpa using hx) hg).mono (Nat.le_succ _) hJ⟩
   show(cs++rest)[0+i]?=_;rw[Nat.zero_add,Array.getElem?_append_left hi,hg]
  ·show ∃y,(cs++rest)[0+i]?=some y/\_;rw[Nat.zero_add];exact hall i hi
  ·have:(0:Nat)+i<0:=hh.2;omega
 obtain⟨g1,g2⟩:=(Sim.drew h).new (.cells cells true) (.cells (cs++rest) e) ⟨w.heap.size,0,c*z,z⟩ rfl hO;refine⟨_,?_,g1,(Step.drew s J w).trans g2⟩;refine .one (.slice (a:=⟨s.next,0,none⟩) (Nat.lt_succ_self _) rfl hnl hc (.inr (by simp[tr,putJ])) (.inr ⟨by simp[putJ],by simpa[putJ]using hz,?_⟩))
 simp[putJ]
theorem A8p{z:Array Value}(hp:z.all plain=true)(n:Nat):∀v∈madeCells z n,v.oneCell'=true:=by
 intro v hv;obtain⟨i,hi,rfl⟩:=Array.getElem_of_mem hv;have h:=A85 (n:=0) (J:=fun _=>⟨0,0,0,0⟩) (z:=z.toList) rfl hp n;have hs:i<(A2q z.toList n).toArray.size:=by rw[h.1];exact hi
 exact(h.2 i _ _ (Array.getElem?_eq_getElem hs) (Array.getElem?_eq_getElem hi)).one_right
structure AppR(P:Program)(w:World)(t ty e:TypeId)(u:TypeId)(y':Value)(i:TypeInfo)(zv:Value)(m:Nat)(cs':Array Value):Prop where
 room:∀(base:Option Addr) (l c:Nat),l+m<=c->∀(w1:World),((match base with|some a=>storeCells (a.add (l*i.size)) cs'.toList|none=>pure ()):Sem Unit).run P w=.ok () w1->
  (Builtin.append_ #[t,u] ty #[.slice base l c,y']).run P w=.ok (.slice base (l+m) c) w1
 grow:∀(base:Option Addr) (l c:Nat) (old:Array Value),c<l+m->(l+m)*i.bytes<=140737488355328->l+m<=140737488355328->(Builtin.firstCells i.size l (.slice base l c)).run P w.drew=.ok old w.drew->
  (Builtin.append_ #[t,u] ty #[.slice base l c,y']).run P w=.ok (.slice (some ⟨w.heap.size,0,none⟩) (l+m) (grownCap w (l+m) c e))
    (w.drew.alloc (.cells (old++cs'++Builtin.zeroCells zv.cells (grownCap w (l+m) c e-(l+m))) e))
theorem C3f{t ty e u:TypeId}{y':Value}{i:TypeInfo}{zv:Value}{m:Nat}{cs':Array Value}{zz:Bool}
  (hu:P.underlying t=some (.slice e)) (hi:P.info? e=some i) (hzv:i.zero=some zv) (hz:A5r P u=some zz)
  (hn:if zz then ∃k l,y'=.int k l/\0<=l/\l.toNat=m/\l*i.bytes<=140737488355328/\l<=140737488355328 else ∀w,(Builtin.lenOf y').run P w=.ok m w)
  (ha:if zz then cs'=Builtin.zeroCells zv.cells m/\(m*i.size=0->cs'=#[])else ∀w2,A55 w w2->(Builtin.firstCells i.size m y').run P w2=.ok cs' w2):AppR P w t ty e u y' i zv m cs':=by
 have hfit:∀{l c:Nat},c<l+m->(l+m)*i.bytes<=140737488355328->¬(281474976710656<Builtin.nextslicecap (l+m) c*i.bytes):=fun h h'=>by
  have:=growslice_fits (bytes:=i.bytes) h h';omega
 have hd1:A55 w w.drew:=A55.refl w;unfold A5r at hz;split at hz
 ·rename_i q hq;cases hz;simp only[if_true]at hn ha;obtain⟨k,l0,rfl,g0,rfl,g1,g2⟩:=hn;obtain⟨hcs,hcs0⟩:=ha;have wl:IntKind.i64.wrap l0=l0:=by rw[IntKind.wrap_i64];omega
  have n1:¬l0<0:=by omega
  have n2:¬(281474976710656<l0*(i.bytes:Int)):=by omega
  constructor
  ·intro base l c hle w1 hst;have hle':l+l0.toNat<=c:=hle;by_cases hms:l0.toNat*i.size=0
   ·have:=hcs0 hms;rw[this]at hst;cases base with
    | none=>simp[Builtin.append_,run_underlying hu,run_underlying hq,sizeOf,typeInfo,hi,asInt,asIntOf,wl,n1,n2,hle',hms];simpa using hst
    | some a=>simp at hst;simp[Builtin.append_,run_underlying hu,run_underlying hq,sizeOf,typeInfo,hi,asInt,asIntOf,wl,n1,n2,hle',hms,hst]
   ·rw[hcs]at hst;cases base with
    | none=>simp[Builtin.append_,run_underlying hu,run_underlying hq,sizeOf,typeInfo,hi,asInt,asIntOf,wl,n1,n2,hle',hms,A1a hi hzv];simpa using hst
    | some a=>simp at hst;simp[Builtin.append_,run_underlying hu,run_underlying hq,sizeOf,typeInfo,hi,asInt,asIntOf,wl,n1,n2,hle',hms,A1a hi hzv,hst]
  ·intro base l c old hlt hb hb' hold;have hn':¬(l+l0.toNat<=c):=by omega
   have h63:¬(9223372036854775807<(l:Int)+max l0 0):=by omega
   have hq48:=hfit hlt hb;by_cases hms:l0.toNat*i.size=0
   ·rw[hcs0 hms];simp[Builtin.append_,run_underlying hu,run_underlying hq,sizeOf,typeInfo,hi,asInt,asIntOf,wl,n1,n2,hn',h63,hq48,Question.forced,hold,hms,A1a hi hzv,newRow,grownCap]
   ·rw[hcs];simp[Builtin.append_,run_underlying hu,run_underlying hq,sizeOf,typeInfo,hi,asInt,asIntOf,wl,n1,n2,hn',h63,hq48,Question.forced,hold,hms,A1a hi hzv,newRow,grownCap]
 ·rename_i d hne hd;cases hz;simp only[Bool.false_eq_true,if_false]at hn ha;constructor
  ·intro base l c hle w1 hst;have hf:=ha w (A55.refl w);cases base with
   | none=>
    simp[Builtin.append_,run_underlying hu,run_underlying hd,sizeOf,typeInfo,hi,hn,hle,hf];simpa using hst
   | some a=>
    simp at hst;simp[Builtin.append_,run_underlying hu,run_underlying hd,sizeOf,typeInfo,hi,hn,hle,hf,hst]
  ·intro base l c old hlt hb hb' hold;have hn':¬(l+m<=c):=by omega
   have h63:¬(9223372036854775807<(l:Int)+m):=by omega
   have hq48:=hfit hlt hb;have hf:=ha w.drew hd1;simp[Builtin.append_,run_underlying hu,run_underlying hd,sizeOf,typeInfo,hi,hn,hn',h63,hq48,Question.forced,hold,hf,A1a hi hzv,newRow,grownCap]
 ·cases hz
theorem C2d(hS:Sim G s J w){t ty e u:TypeId}{z b:Nat}{zero:List Value}(ht:A0e P t=some (e,z,b,zero)){y y':Value}{m:Nat}{cs:List Value}
  (h:B31 P u z b zero y s=some (m,cs)) (hy:VR s.next J false y y') :
  ∃i zv cs',P.info? e=some i/\i.size=z/\i.bytes=b/\i.zero=some zv/\zv.cells.all plain=true/\zv.cells.size=z/\0<z/\cs.length=m*z/\VRa s.next J cs.toArray cs'/\AppR P w t ty e u y' i zv m cs':=by
 obtain⟨hu,i,zv,hi,hsz,hbb,hzv,hp,hzl,hzlen,hpos⟩:=A3b ht;have hzsz:zv.cells.size=z:=by rw[<-hzlen,<-hzl];simp
 unfold B31 at h;split at h
 ·rename_i n q hz;split at h
  ·rename_i hc;cases h;cases hy.int_inv;have hzc:Builtin.zeroCells zv.cells q.toNat=madeCells zv.cells (q.toNat*z):=by rw[A2y,hzsz]
   refine⟨i,zv,madeCells zv.cells (q.toNat*z),hi,hsz,hbb,hzv,hp,hzsz,hpos,by simp[A2q],A85 hzl hp _,C3f hu hi hzv hz ?_ ?_⟩
   ·exact⟨_,q,rfl,hc.1,rfl,by rw[hbb];exact hc.2.1,hc.2.2⟩
   ·refine⟨hzc.symm,fun h0=>?_⟩;rw[<-hsz,h0];simp[madeCells]
  ·cases h
 ·rename_i a l c hz;cases hsc:A0z z (.slice a l c) s with
  | none=>rw[hsc]at h;cases h
  | some cs0=>
   rw[hsc]at h;cases h;obtain⟨a',c',rfl,hlen,ys,hyl,hrel,hcell⟩:=A93 hS hsc hy;refine⟨i,zv,ys.toArray,hi,hsz,hbb,hzv,hp,hzsz,hpos,hlen,⟨by simp[hyl],fun i x y hx hy=>hrel i x y (by simpa using hx) (by simpa using hy)⟩,C3f hu hi hzv hz ?_ ?_⟩
   ·exact fun w=>by simp[Builtin.lenOf]
   ·intro w2 hw;rw[hsz];exact A6g (by rw[hyl,hlen]) (fun j u hj=>hcell w2 hw j u hj)
 ·rename_i bs hz;split at h
  ·rename_i hz1;cases h;cases hy.string_inv;refine⟨i,zv,(A2u bs).toArray,hi,hsz,hbb,hzv,hp,hzsz,hpos,by simp[A2u,hz1],⟨rfl,fun i x y hx hy=>B1i bs i x y (by simpa using hx) (by simpa using hy)⟩,C3f hu hi hzv hz ?_ ?_⟩
   ·exact fun w=>by simp[Builtin.lenOf]
   ·intro w2 _;simp only[Builtin.firstCells,Sem.run_pure];congr 1;apply Array.ext';simp[A2u,ByteArray.extract,ByteArray.copySlice];exact List.take_of_length_le (by simp)
  ·cases h
 ·cases h
theorem E4b(hS:Sim G s J w){t ty e u:TypeId}{z b:Nat}{zero:List Value}(ht:A0e P t=some (e,z,b,zero)){x x' y y':Value}{k:Post}
  (h:appW z b x (B31 P u z b zero y s) k s) (hx:VR s.next J false x x') (hy:VR s.next J false y y') :
  ∃v' w',(Builtin.append_ #[t,u] ty #[x',y']).run P w=.ok v' w'/\A82 G s J w k v' w':=by
 unfold appW at h;split at h
 ·-- to nil
  rename_i m cs hn;obtain⟨i,zv,cs',hi,hsz,hbb,hzv,hp,hzsz,hpos,hlen,hrel,hA⟩:=C2d (ty:=ty) hS ht hn hy;obtain⟨_,_,rfl⟩:=hx.nilSlice_inv;split at h
  ·rename_i h0;subst h0;refine⟨_,w,hA.room none 0 0 (by omega) w rfl,_,s,J,h,?_,hS,.refl _ _ _⟩
   exact .one .nilSlice
  ·rename_i h0;obtain⟨hb1,hb2,hk⟩:=h;have hcap:=grownCap_ge w m 0 e;have hcap2:=grownCap_le_maxLen w m 0 e (by unfold maxLen;omega)
   unfold maxLen at hcap2;have hg:=hA.grow none 0 0 #[] (by omega) (by rw[hbb,Nat.zero_add];exact hb1) (by omega) (by simp[Builtin.firstCells])
   simp only[Nat.zero_add,Array.empty_append]at hg;have hcs':cs'.size=m*z:=by rw[<-hlen,<-hrel.1];simp
   obtain⟨J',r1,r2,r3⟩:=hS.grown (e:=e) (z:=z) hrel (A8p hp ((grownCap w m 0 e-m)*z)) (nl:=m) hpos hcap2 hcap (by
    rw[Array.size_append,hcs',size_madeCells,<-Nat.add_mul];congr 1;omega)
   refine⟨_,_,hg,_,_,J',hk,r1,?_,?_⟩
   ·rw[A2y,hzsz];exact r2
   ·rw[A2y,hzsz];exact r3
 ·-- to a slice
  rename_i a l c m cs hn;obtain⟨i,zv,cs',hi,hsz,hbb,hzv,hp,hzsz,hpos,hlen,hrel,hA⟩:=C2d (ty:=ty) hS ht hn hy;obtain⟨a',c',rfl,hb,hs,hl,hc,ha,hcap⟩:=hx.slice_inv;have hcs':cs'.size=m*z:=by rw[<-hlen,<-hrel.1];simp
  split at h
  ·rename_i h0;subst h0;have:cs'=#[]:=by simpa using hcs'
   subst this;exact⟨_,w,hA.room (some a') l c' (by omega) w (by simp[storeCells]),_,s,J,h,hx,hS,.refl _ _ _⟩
  ·rename_i h0;obtain⟨hb1,hb2,h⟩:=h;by_cases hl0:l=0/\c=0
   ·rw[if_pos hl0]at h;obtain⟨rfl,rfl⟩:=hl0;have hc0:c'=0:=by
     rcases hcap with h1|⟨h1,_⟩
     ·exact h1.symm
     ·exfalso;unfold top at *;omega
    subst hc0;have hcap1:=grownCap_ge w m 0 e;have hcap2:=grownCap_le_maxLen w m 0 e (by unfold maxLen;omega)
    unfold maxLen at hcap2;have hg:=hA.grow (some a') 0 0 #[] (by omega) (by rw[hbb];exact hb1) hb2 (A6g (ys:=[]) (by simp) (fun j u hj=>by simp at hj))
    simp only[Nat.zero_add,Array.empty_append]at hg;obtain⟨J',r1,r2,r3⟩:=hS.grown (e:=e) (z:=z) hrel (A8p hp ((grownCap w m 0 e-m)*z)) (nl:=m) hpos hcap2 hcap1 (by
     rw[Array.size_append,hcs',size_madeCells,<-Nat.add_mul];congr 1;omega)
    refine⟨_,_,hg,_,_,J',h,r1,?_,?_⟩
    ·rw[A2y,hzsz];exact r2
    ·rw[A2y,hzsz];exact r3
   rw[if_neg hl0]at h;split at h
   ·rename_i vs tail hrow;obtain⟨hle,h⟩:=h;have hext:=(hS.obj _ _ hrow).1;have inplace:∀q,l+m<=c'->a.off+(l+m)*z<=(J a.block).ext->(q=c'\/(q=top+(J a.block).w/\0<(J a.block).w/\a.off+c'*(J a.block).w=(J a.block).ext))->
      k (.slice (some a) (l+m) q) (s.put a.block (.cells (lwr vs (a.off+l*z) cs) tail))->
      ∃v' w',(Builtin.append_ #[t,u] ty #[.slice (some a') l c',y']).run P w=.ok v' w'/\A82 G s J w k v' w':=by
     intro q hq hfit hqc hk;have ha':a'=tr (J a.block) a:=ha.resolve_left (by omega)
     obtain⟨w',e1,e2,e3⟩:=hS.put (P:=P) hrow (a.off+l*z) cs cs'.toList (by rw[hlen];simpa using hcs'.symm) (fun i x y hx hy=>hrel.2 i x y (by simpa using hx) (by simpa using hy)) hle (by rw[hlen,Nat.add_assoc,<-Nat.add_mul];exact hfit)
     refine⟨_,w',hA.room (some a') l c' hq w' ?_,_,_,J,hk,?_,e2,e3⟩
     ·rw[ha',hsz];show(storeCells ((tr (J a.block) a).add (l*z)) cs'.toList).run P w=.ok () w';rw[B5n];simpa[tr]using e1
     ·exact .one (.slice hb hs hq hc (.inr ha') hqc)
    have anew:c'<l+m->B30 z (l+m) ((vs.drop a.off).take (l*z)++cs) k s->
      ∃v' w',(Builtin.append_ #[t,u] ty #[.slice (some a') l c',y']).run P w=.ok v' w'/\A82 G s J w k v' w':=by
     intro hlt hk;obtain⟨ys,g1,g2,g3⟩:=hS.cells (w:=w) hrow hle;have hold:(Builtin.firstCells i.size l (.slice (some a') l c')).run P w.drew=.ok ys.toArray w.drew:=by
      rw[hsz];refine A6g g1 (fun j u hj=>⟨a',rfl,?_⟩);have hjl:=(List.getElem?_eq_some_iff.1 hj).1;have ha':a'=tr (J a.block) a:=ha.resolve_left (by
       intro hc0;have h00:l=0:=by omega
       rw[g1,h00,Nat.zero_mul]at hjl;omega)
      rw[ha'];exact g3 w.drew (A55.refl w) j u hj
     have hg:=hA.grow (some a') l c' ys.toArray hlt (by rw[hbb];exact hb1) hb2 hold
     have hcap1:=grownCap_ge w (l+m) c' e;have hcap2:=grownCap_le_maxLen w (l+m) c' e (by unfold maxLen;omega)
     unfold maxLen at hcap2;have hrel':VRa s.next J ((vs.drop a.off).take (l*z)++cs).toArray (ys.toArray++cs'):=by
      rw[<-List.append_toArray];refine VRa.append ⟨?_,fun i x y hx hy=>g2 i x y (by simpa using hx) (by simpa using hy)⟩ hrel
      simp[g1];omega
     obtain⟨J',r1,r2,r3⟩:=hS.grown (e:=e) (z:=z) hrel' (A8p hp ((grownCap w (l+m) c' e-(l+m))*z)) (nl:=l+m) hpos hcap2 hcap1 (by
      rw[Array.size_append,Array.size_append,hcs',size_madeCells];simp only[List.size_toArray,g1];rw[<-Nat.add_mul,<-Nat.add_mul];congr 1;omega)
     refine⟨_,_,hg,_,_,J',hk,r1,?_,?_⟩
     ·rw[A2y,hzsz];exact r2
     ·rw[A2y,hzsz];exact r3
    split at h
    ·rename_i hct;have hw:z=(J a.block).w/\0<(J a.block).w/\a.off+c'*(J a.block).w=(J a.block).ext:=by
      rcases hcap with h1|⟨h1,h3,h4⟩
      ·exfalso;unfold top at *;omega
      ·exact⟨by unfold top at *;omega,h3,h4⟩
     obtain⟨w1,w2,w3⟩:=hw;have hmul:l+m<=c'↔a.off+(l+m)*z<=(J a.block).ext:=by
      rw[<-w3,<-w1];constructor
      ·intro hh;have:=Nat.mul_le_mul_right z hh;omega
      ·intro hh;exact Nat.le_of_mul_le_mul_right (by omega:(l+m)*z<=c'*z) hpos
     split at h
     ·rename_i hin;exact inplace c (hmul.2 (by omega)) (by omega) (.inr ⟨by rw[hct,w1],w2,w3⟩) h
     ·rename_i hin;by_cases hroom:l+m<=c'
      ·have htail:tail=true:=by
        cases tail with
        | true=>rfl
        | false=>
         have:=(hS.obj _ _ hrow).2.1 rfl;have:=hmul.1 hroom;omega
       exact inplace c hroom (hmul.1 hroom) (.inr ⟨by rw[hct,w1],w2,w3⟩) (h.2 htail)
      ·exact anew (by omega) h.1
    ·rename_i hct;obtain⟨hct2,h⟩:=h;have hcc:c=c':=by
      rcases hcap with h1|⟨h1,_⟩
      ·exact h1
      ·exfalso;unfold top at *;omega
     subst hcc;split at h
     ·rename_i hroom;exact inplace c hroom (by omega) (.inl rfl) h.2
     ·exact anew (by omega) h
   ·exact h.elim
 ·exact h.elim
end Go.Zz
namespace Go.Zz
open Go
open Go.ChangeMaps (setBlock)
variable {P : Program} {G : Nat} {s : St} {J : Nat → Plc} {w : World}
theorem D76{b:Nat}{a:Addr}{y:Value}(h:VR s.next J false (.pointer (some a)) y)(h0:a.off=0)(hb:a.block=b)(hk:(J b).k=0):y=.pointer (some ⟨(J b).cb,0,none⟩):=by
 obtain⟨_,_,rfl⟩:=h.ptr_inv;subst hb;simp[tr,h0,hk]
theorem Sim.allocWhole(hS:Sim G s J w){x:AObj}{o:Obj}(hx:NewR s.next J x o) :
  Sim G (s.alloc x) (putJ J s.next ⟨w.heap.size,0,A8t x,0⟩) (w.alloc o)/\Step s J w (s.alloc x) (putJ J s.next ⟨w.heap.size,0,A8t x,0⟩) (w.alloc o):=
 ⟨(hS.holds (A51 w o)).install (x:=x) (o:=o) (blk:=w.heap.size) (by show(w.heap.push _)[w.heap.size]?=_;exact Array.getElem?_push_size)
   (fun k=>by rintro⟨b,y,hy,ho⟩;have:=(hS.obj b y hy).lt;rw[ho.cb]at this;omega) hx,
  Step.install hS.live ((Step.refl s J w).alloc o) (Nat.le_refl _)⟩
theorem D0p(hS:Sim G s J w){t:TypeId}{x x':Value}{k:Post}(h:A75 (A22 P t) x k s)(hx:VR s.next J false x x') :
  ∃v' w',(Instr.range t x').run P w=.ok v' w'/\A82 G s J w k v' w':=by
 obtain⟨hm,h⟩:=h;obtain⟨kt,e,hu⟩:=B0p hm;split at h
 ·cases hx.nilMap_inv;obtain⟨g1,g2⟩:=hS.allocWhole (x:=.iter none 0 [] 0) (o:=.mapIter none 0 #[] 0) ⟨none,rfl,.inl ⟨rfl,rfl⟩⟩;exact⟨_,_,run_range_nilMap w t kt e hu,_,_,_,h,NewV.rel (nk:=.ptr) trivial _,g1,g2⟩
 ·rename_i r;obtain⟨hr,rfl⟩:=hx.map_inv;split at h
  ·rename_i es bs c hrow;obtain⟨es',hc,_⟩:=hS.obj _ _ hrow;obtain⟨g1,g2⟩:=hS.allocWhole (x:=.iter (some r) c [] c) (o:=.mapIter (some (J r).cb) c #[] c) ⟨some (J r).cb,rfl,.inr ⟨r,rfl,hr,rfl⟩⟩;exact⟨_,_,run_range_map w t kt e _ es' c hu hc,_,_,_,h,NewV.rel (nk:=.ptr) trivial _,g1,g2⟩
  ·exact h.elim
 ·exact h.elim
theorem C50{n:Nat}:VR n J false (.tuple #[.bool false]) (.tuple #[.bool false]):=.tuple rfl fun i x y hx hy=>by
 rw[hx]at hy;cases hy;have:x=.bool false:=by
  have:=Array.mem_of_getElem? hx;simpa using this
 subst this;exact .one (.bool _)
theorem D6i(hS:Sim G s J w){b:Bool}{ty:TypeId}{x x':Value}{k:Post}(h:B28 b x k s)(hx:VR s.next J false x x') :
  ∃v' w',(Instr.next x' b ty).run P w=.ok v' w'/\A82 G s J w k v' w':=by
 obtain⟨rfl,h⟩:=h;split at h
 ·rename_i a;obtain⟨h0,h⟩:=h;split at h
  ·rename_i since seen last hrow;obtain⟨hk0,r',hc,hr⟩:=hS.obj _ _ hrow;obtain rfl:r'=none:=by
    rcases hr with⟨_,h⟩|⟨q,h,_⟩
    ·exact h
    ·cases h
   rw[D76 hx h0 rfl hk0];refine⟨_,w,?_,_,s,J,h,C50,hS,.refl _ _ _⟩;simp[Instr.next,getObj,Sem.run,hc]
  ·rename_i r since seen last hrow;obtain⟨hk0,r',hc,hr⟩:=hS.obj _ _ hrow;obtain rfl:r'=some (J r).cb:=by
    rcases hr with⟨h,_⟩|⟨q,h,_,h2⟩
    ·cases h
    ·cases h;exact h2
   rw[D76 hx h0 rfl hk0];split at h
   ·rename_i es bs c hrow2;obtain⟨hold,hsl,hgo,hend⟩:=h;obtain⟨es',hc2,hl,hbs,hrel,_,_⟩:=hS.obj _ _ hrow2;have hold':∀y∈es'.toList,y.born<since:=fun y hy=>hold _ (by rw[<-hbs];exact List.mem_map.2 ⟨y,hy,rfl⟩)
    rcases run_next_at (P:=P) w ty (J a.block).cb (J r).cb since last seen.toArray es' c hc hc2 hold' hsl with⟨hz,hrun⟩|⟨e,he,w1,hw1,hrun⟩
    ·refine⟨_,w,hrun,_,s,J,hend fun t ht=>?_,C50,hS,.refl _ _ _⟩;rw[<-hbs]at ht;obtain⟨y,hy,rfl⟩:=List.mem_map.1 ht;have hnil:leftOf es' seen.toArray=#[]:=Array.eq_empty_of_size_eq_zero hz;unfold leftOf at hnil;rw[Array.filter_eq_empty_iff]at hnil;have:=hnil y (by simpa using hy)
     simpa using this
    ·simp only[leftOf,Array.toList_filter,List.mem_filter]at he;obtain⟨hmem,hns⟩:=he;obtain⟨j,hj,hje⟩:=List.getElem_of_mem hmem;have hj':j<es'.size:=by simpa using hj
     have hge:es'[j]?=some e:=by rw[Array.getElem?_eq_getElem hj'];simpa using hje
     have hgx:es[j]?=some es[j]:=List.getElem?_eq_getElem (by omega)
     have hbj:bs[j]?=some e.born:=by rw[<-hbs,List.getElem?_map,Array.getElem?_toList,hge];rfl
     obtain⟨v1,v2⟩:=hrel j _ _ hgx hge;have hns':e.born∉seen:=by simpa using hns
     have hwd:∃J1,J1=J/\Sim G s J w1/\Step s J w s J w1:=by
      rcases hw1 with rfl|rfl
      ·exact⟨J,rfl,hS,.refl _ _ _⟩
      ·exact⟨J,rfl,hS.drew,.drew _ _ _⟩
     obtain⟨_,_,hS1,hst1⟩:=hwd;obtain⟨g1,g2⟩:=hS1.putWhole (x2:=.iter (some r) since (seen++[e.born]) c) hrow rfl rfl (.mapIter (some (J r).cb) since (seen.toArray.push e.born) c) (fun _ _ _ _ _ _ h=>by cases h)
      (fun w' hw'=>⟨hk0,some (J r).cb,by simpa using hw',hr⟩)
     refine⟨_,_,hrun,_,_,J,hgo j _ _ hbj hgx hns',?_,g1,hst1.trans g2⟩;refine .tuple rfl fun i x y hx hy=>?_
     match i,hx,hy with
     | 0,hx,hy=>simp at hx hy;subst hx;subst hy;exact .one (.bool _)
     | 1,hx,hy=>simp at hx hy;subst hx;subst hy;exact v1
     | 2,hx,hy=>simp at hx hy;subst hx;subst hy;exact v2
   ·exact h.elim
  ·exact h.elim
 ·exact h.elim
theorem D0c(hS:Sim G s J w){x x':Value}{k:Post}(h:A7k x k s)(hx:VR s.next J false x x') :
  ∃v',(Instr.entry x').run P w=.ok v' w/\A82 G s J w k v' w:=by
 unfold A7k at h;split at h
 ·rename_i a;obtain⟨h0,h⟩:=h;split at h
  ·rename_i r since seen stepped hrow;obtain⟨hk0,r',hc,hr⟩:=hS.obj _ _ hrow;obtain rfl:r'=some (J r).cb:=by
    rcases hr with⟨h,_⟩|⟨q,h,_,h2⟩
    ·cases h
    ·cases h;exact h2
   rw[D76 hx h0 rfl hk0];split at h
   ·rename_i es bs c hrow2;obtain⟨rfl,t,j,e,hlast,hbj,hej,hk⟩:=h;obtain⟨es',hc2,hl,hbs,hrel,_,hinc⟩:=hS.obj _ _ hrow2;have hj:j<es'.size:=by have:=(List.getElem?_eq_some_iff.1 hej).1;omega
    have hge:=Array.getElem?_eq_getElem hj;obtain⟨v1,v2⟩:=hrel j _ _ hej hge;have hborn:(es'[j]).born=t:=by
     rw[<-hbs,List.getElem?_map,Array.getElem?_toList,hge]at hbj;simpa using hbj
    obtain⟨l0,rfl⟩:∃l0,seen=l0++[t]:=by
     rw[List.getLast?_eq_some_iff]at hlast;exact hlast
    have hnd:(es'.toList.map (·.born)).Nodup:=by
     rw[List.Nodup,List.pairwise_iff_getElem];intro i1 i2 h1 h2 hlt;simp only[List.length_map,Array.length_toList]at h1 h2;have:=hinc i1 i2 _ _ hlt (Array.getElem?_eq_getElem h1) (Array.getElem?_eq_getElem h2);simp only[List.getElem_map,Array.getElem_toList];omega
    have hrun:=run_entry_at (P:=P) w (J a.block).cb (J r).cb since l0.toArray es' c es'[j] (by rw[hc,hborn];simp) hc2 (by simp) hnd
    refine⟨_,hrun,_,s,J,hk,?_,hS,.refl _ _ _⟩;refine .tuple rfl fun i x y hx hy=>?_
    match i,hx,hy with
    | 0,hx,hy=>simp at hx hy;subst hx;subst hy;exact v1
    | 1,hx,hy=>simp at hx hy;subst hx;subst hy;exact v2
   ·exact h.elim
  ·exact h.elim
 ·exact h.elim
end Go.Zz
