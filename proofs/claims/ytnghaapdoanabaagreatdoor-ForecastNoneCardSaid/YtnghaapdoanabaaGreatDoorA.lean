import Derived.CallsIn
import Derived.Laws.Entries
import Derived.Laws.IdiomCopy
import Derived.Laws.Cells
set_option linter.all false
namespace Go.Zz
open Go
inductive AObj where
 | cells (vs:List Value) (tail:Bool)
 | map (es:List (Value×Value)) (bs:List Nat) (clock:Nat)   -- 'bs': when each entry came
 | iter (r:Option Nat) (since:Nat) (seen:List Nat) (stepped:Nat)   -- a range over a map on its way
 | loop (A:List Value) (ps:Array Tmp) (assign body:Code) (st:LoopState) (pend:Option Code)   -- a range over a function on its way
structure St where
 heap:Nat->Option AObj
 next:Nat
structure Plc where
 cb:Nat
 k:Nat
 ext:Nat
 w:Nat
def top:Nat:=18446744073709551616
def tr(m:Plc)(a:Addr):Addr:=⟨m.cb,m.k+a.off,none⟩
inductive VR (n:Nat) (J:Nat->Plc):Bool->Value->Value->Prop
 | dc1 {y:Value}:y.oneCell'=true->VR n J true undef y
 | bool (b:Bool):VR n J true (.bool b) (.bool b)
 | int (k:IntKind) (i:Int):VR n J true (.int k i) (.int k i)
 | float (k:FloatKind) (i:Nat):VR n J true (.float k i) (.float k i)
 | string (s:ByteArray):VR n J true (.string s) (.string s)
 | nilPtr:VR n J true (.pointer none) (.pointer none)
 | ptr {a:Addr}:a.block<n->a.spot=none->VR n J true (.pointer (some a)) (.pointer (some (tr (J a.block) a)))
 | nilSlice:VR n J true (.slice none 0 0) (.slice none 0 0)
 | slice {a a':Addr} {l c c':Nat}:a.block<n->a.spot=none->l<=c'->c'<=9223372036854775807->(c'=0\/a'=tr (J a.block) a)->
   (c=c'\/(c=top+(J a.block).w/\0<(J a.block).w/\a.off+c'*(J a.block).w=(J a.block).ext))->VR n J true (.slice (some a) l c) (.slice (some a') l c')
 | nilMap:VR n J true (.map none) (.map none)
 | map {r:Nat}:r<n->VR n J true (.map (some r)) (.map (some (J r).cb))
 | nilFunc:VR n J true .nilFunc .nilFunc
 | func {f:FuncId} {first first' captured captured':Array Value}:first.size=first'.size->(∀(i:Nat) (x y:Value),first[i]?=some x->first'[i]?=some y->VR n J false x y)->captured.size=captured'.size->
   (∀(i:Nat) (x y:Value),captured[i]?=some x->captured'[i]?=some y->VR n J true x y)->VR n J true (.func (.func f) first captured) (.func (.func f) first' captured')
 | yield {l:Nat}:l<n->VR n J true (.func (.yield l) #[] #[]) (.func (.yield (J l).cb) #[] #[])
 | nilIface:VR n J true .nilIface .nilIface
 | iface {t:TypeId} {x y:Value}:VR n J false x y->(∀vs,x≠.tuple vs)->(∀r,x≠.chan r)->VR n J true (.iface t x) (.iface t y)
 | dc {y:Value}:VR n J false undef y
 | skip:VR n J false (.chan none) undef   -- nothing was reckoned
 | one {x y:Value}:VR n J true x y->VR n J false x y
 | agg {cs cs':Array Value}:cs.size=cs'.size->(∀(i:Nat) (x y:Value),cs[i]?=some x->cs'[i]?=some y->VR n J true x y)->VR n J false (.agg cs) (.agg cs')
 | tuple {cs cs':Array Value}:cs.size=cs'.size->(∀(i:Nat) (x y:Value),cs[i]?=some x->cs'[i]?=some y->VR n J false x y)->VR n J false (.tuple cs) (.tuple cs')
inductive Bel (n:Nat):Value->Prop
 | undef:Bel n undef
 | bool (b:Bool):Bel n (.bool b)
 | int (k:IntKind) (i:Int):Bel n (.int k i)
 | float (k:FloatKind) (i:Nat):Bel n (.float k i)
 | string (s:ByteArray):Bel n (.string s)
 | nilPtr:Bel n (.pointer none)
 | ptr {a:Addr}:a.block<n->Bel n (.pointer (some a))
 | nilSlice (l c:Nat):Bel n (.slice none l c)
 | slice {a:Addr} {l c:Nat}:a.block<n->Bel n (.slice (some a) l c)
 | nilMap:Bel n (.map none)
 | map {r:Nat}:r<n->Bel n (.map (some r))
 | nilFunc:Bel n .nilFunc
 | func {f:FuncId} {first captured:Array Value}:(∀(i:Nat) (x:Value),first[i]?=some x->Bel n x)->(∀(i:Nat) (x:Value),captured[i]?=some x->Bel n x)->Bel n (.func (.func f) first captured)
 | yield {l:Nat}:l<n->Bel n (.func (.yield l) #[] #[])
 | nilIface:Bel n .nilIface
 | iface {t:TypeId} {x:Value}:Bel n x->Bel n (.iface t x)
 | agg {cs:Array Value}:(∀(i:Nat) (x:Value),cs[i]?=some x->Bel n x)->Bel n (.agg cs)
 | tuple {cs:Array Value}:(∀(i:Nat) (x:Value),cs[i]?=some x->Bel n x)->Bel n (.tuple cs)
 | skip:Bel n (.chan none)
theorem VR.bel{n:Nat}{J:Nat->Plc}{o:Bool}{x y:Value}(h:VR n J o x y):Bel n x:=by
 have lift:∀{cs cs':Array Value},cs.size=cs'.size->(∀(i:Nat) (x y:Value),cs[i]?=some x->cs'[i]?=some y->Bel n x)->∀(i:Nat) (x:Value),cs[i]?=some x->Bel n x:=by
  intro cs cs' hs h i x hx;have hi:i<cs'.size:=by rw[<-hs];exact(Array.getElem?_eq_some_iff.1 hx).1
  exact h i x _ hx (Array.getElem?_eq_getElem hi)
 induction h with
 | dc1 _=>exact .undef
 | bool b=>exact .bool b
 | int k i=>exact .int k i
 | float k i=>exact .float k i
 | string s=>exact .string s
 | nilPtr=>exact .nilPtr
 | ptr h _=>exact .ptr h
 | nilSlice=>exact .nilSlice _ _
 | slice h _ _ _ _=>exact .slice h
 | nilMap=>exact .nilMap
 | map h=>exact .map h
 | nilFunc=>exact .nilFunc
 | func hf _ hs _ ihf ih=>exact .func (lift hf ihf) (lift hs ih)
 | yield h=>exact .yield h
 | nilIface=>exact .nilIface
 | iface _ _ _ ih=>exact .iface ih
 | dc=>exact .undef
 | skip=>exact .skip
 | one _ ih=>exact ih
 | agg hs _ ih=>exact .agg (lift hs ih)
 | tuple hs _ ih=>exact .tuple (lift hs ih)
theorem VR.mono{n n':Nat}{J J':Nat->Plc}(hn:n<=n')(hJ:∀b,b<n->J' b=J b){o:Bool}{x y:Value}(h:VR n J o x y):VR n' J' o x y:=by
 induction h with
 | dc1 h=>exact .dc1 h
 | bool b=>exact .bool b
 | int k i=>exact .int k i
 | float k i=>exact .float k i
 | string s=>exact .string s
 | nilPtr=>exact .nilPtr
 | ptr h hs=>rw[<-hJ _ h];exact .ptr (Nat.lt_of_lt_of_le h hn) hs
 | nilSlice=>exact .nilSlice
 | slice h hs hl hc ha hcap=>rw[<-hJ _ h]at ha hcap;exact .slice (Nat.lt_of_lt_of_le h hn) hs hl hc ha hcap
 | nilMap=>exact .nilMap
 | map h=>rw[<-hJ _ h];exact .map (Nat.lt_of_lt_of_le h hn)
 | nilFunc=>exact .nilFunc
 | func hf _ hs _ ihf ih=>exact .func hf ihf hs ih
 | yield h=>rw[<-hJ _ h];exact .yield (Nat.lt_of_lt_of_le h hn)
 | nilIface=>exact .nilIface
 | iface _ ht hr ih=>exact .iface ih ht hr
 | dc=>exact .dc
 | skip=>exact .skip
 | one _ ih=>exact .one ih
 | agg hs _ ih=>exact .agg hs ih
 | tuple hs _ ih=>exact .tuple hs ih
theorem VR.down{n n':Nat}{J J':Nat->Plc}(hJ:∀b,b<n->J' b=J b){o:Bool}{x y:Value}(h:VR n' J' o x y)(hb:Bel n x):VR n J o x y:=by
 induction h with
 | dc1 h=>exact .dc1 h
 | bool b=>exact .bool b
 | int k i=>exact .int k i
 | float k i=>exact .float k i
 | string s=>exact .string s
 | nilPtr=>exact .nilPtr
 | ptr h hs=>cases hb with|ptr hb=>rw[hJ _ hb];exact .ptr hb hs
 | nilSlice=>exact .nilSlice
 | slice h hs hl hc ha hcap=>cases hb with|slice hb=>rw[hJ _ hb]at ha hcap;exact .slice hb hs hl hc ha hcap
 | nilMap=>exact .nilMap
 | map h=>cases hb with|map hb=>rw[hJ _ hb];exact .map hb
 | nilFunc=>exact .nilFunc
 | func hf _ hs _ ihf ih=>cases hb with|func hbf hb=>exact .func hf (fun i x y hx hy=>ihf i x y hx hy (hbf i x hx)) hs (fun i x y hx hy=>ih i x y hx hy (hb i x hx))
 | yield h=>cases hb with|yield hb=>rw[hJ _ hb];exact .yield hb
 | nilIface=>exact .nilIface
 | iface _ ht hr ih=>cases hb with|iface hb=>exact .iface (ih hb) ht hr
 | dc=>exact .dc
 | skip=>exact .skip
 | one _ ih=>exact .one (ih hb)
 | agg hs _ ih=>cases hb with|agg hb=>exact .agg hs (fun i x y hx hy=>ih i x y hx hy (hb i x hx))
 | tuple hs _ ih=>
  refine .tuple hs (fun i x y hx hy=>ih i x y hx hy ?_);generalize ht:Value.tuple _=t at hb;cases hb with
  | tuple hb=>cases ht;exact hb i x hx
  | undef=>unfold undef at ht;cases ht;simp at hx
  | _=>cases ht
theorem VR.one_right{n:Nat}{J:Nat->Plc}{x y:Value}(h:VR n J true x y):y.oneCell'=true:=by
 generalize ho:true=o at h;cases h<;>first|rfl|assumption|cases ho
def ObjR(n:Nat)(J:Nat->Plc)(m:Plc)(w:World):AObj->Prop
 | .cells vs tail=>vs.length<=m.ext/\(tail=false->vs.length=m.ext)/\∃c e fr,w.heap[m.cb]?=some (.cells c e fr)/\m.k+m.ext<=c.size/\
   (∀(i:Nat) (x:Value),vs[i]?=some x->∃y,c[m.k+i]?=some y/\VR n J true x y)/\
   (∀i,i<m.ext->∃y,c[m.k+i]?=some y/\y.oneCell'=true)/\(∀i,i<m.ext->¬(fr.1<=m.k+i/\m.k+i<fr.2))/\(tail=true->fr=(0,0))
 | .iter r since seen stepped=>m.k=0/\∃r',w.heap[m.cb]?=some (.mapIter r' since seen.toArray stepped)/\((r=none/\r'=none)\/∃q,r=some q/\q<n/\r'=some (J q).cb)
 | .loop A ps assign body st pend=>∃L,w.heap[m.cb]?=some (.loop L)/\L.params=ps/\L.assign=assign/\L.body=body/\L.state=st/\L.pending=pend/\A.length=L.tmps.size/\
   (∀(i:Nat) (x y:Value),A[i]?=some x->L.tmps[i]?=some y->VR n J false x y)
 | .map es bs clock=>∃es',w.heap[m.cb]?=some (.map es' clock)/\es.length=es'.size/\es'.toList.map (·.born)=bs/\
   (∀(i:Nat) (x:Value×Value) (y:MapEntry),es[i]?=some x->es'[i]?=some y->VR n J false x.1 y.key/\VR n J false x.2 y.val)/\
   (∀(i:Nat) (y:MapEntry),es'[i]?=some y->y.born<clock)/\(∀(i j:Nat) (y z:MapEntry),i<j->es'[i]?=some y->es'[j]?=some z->y.born≠z.born)
def Owns(m:Plc):AObj->Nat->Nat->Prop
 | .cells _ _,cb,o=>m.cb=cb/\m.k<=o/\o<m.k+m.ext
 | _,cb,_=>m.cb=cb
def A72(s:St)(J:Nat->Plc)(cb o:Nat):Prop:=∃b x,s.heap b=some x/\Owns (J b) x cb o
structure Sim(G:Nat)(s:St)(J:Nat->Plc)(w:World):Prop where
 live:∀b x,s.heap b=some x->b<s.next
 obj:∀b x,s.heap b=some x->ObjR s.next J (J b) w x
 apart:∀b b' x x' cb o,b≠b'->s.heap b=some x->s.heap b'=some x'->Owns (J b) x cb o->¬Owns (J b') x' cb o
 glob:∀g,g<G->g<s.next/\(J g).cb=g/\(J g).k=0
structure Step(s:St)(J:Nat->Plc)(w:World)(s':St)(J':Nat->Plc)(w':World):Prop where
 le:s.next<=s'.next
 ext:∀b,b<s.next->J' b=J b
 size:w.heap.size<=w'.heap.size
 os:w'.os=w.os
 out:w'.output=w.output
 tape:w'.tape=w.tape/\w.drawn<=w'.drawn
 free:∀cb o,cb<w.heap.size->¬A72 s J cb o->¬A72 s' J' cb o
 row:∀cb c e f,w.heap[cb]?=some (.cells c e f)->∃c',w'.heap[cb]?=some (.cells c' e f)/\c'.size=c.size/\∀o,¬A72 s J cb o->c'[o]?=c[o]?
 other:∀cb x,w.heap[cb]?=some x->(∀c e f,x≠.cells c e f)->(∀o,¬A72 s J cb o)->w'.heap[cb]?=some x
 loops:∀(cb:Nat) (r:Loop),w.heap[cb]?=some (Obj.loop r)->∃r':Loop,w'.heap[cb]?=some (Obj.loop r')
theorem Step.refl(s:St)(J:Nat->Plc)(w:World):Step s J w s J w:=
 ⟨Nat.le_refl _,fun _ _=>rfl,Nat.le_refl _,rfl,rfl,⟨rfl,Nat.le_refl _⟩,fun _ _ _ h=>h,fun _ c _ _ h=>⟨c,h,rfl,fun _ _=>rfl⟩,fun _ _ h _ _=>h,fun _ r h=>⟨r,h⟩⟩
theorem Step.trans{s s' s'':St}{J J' J'':Nat->Plc}{w w' w'':World}(h:Step s J w s' J' w')(h':Step s' J' w' s'' J'' w''):Step s J w s'' J'' w'' where
 le:=Nat.le_trans h.le h'.le
 ext b hb:=(h'.ext b (Nat.lt_of_lt_of_le hb h.le)).trans (h.ext b hb)
 size:=Nat.le_trans h.size h'.size
 os:=h'.os.trans h.os
 out:=h'.out.trans h.out
 tape:=⟨h'.tape.1.trans h.tape.1,Nat.le_trans h.tape.2 h'.tape.2⟩
 free cb o hc hn:=h'.free cb o (Nat.lt_of_lt_of_le hc h.size) (h.free cb o hc hn)
 row cb c e f hc:=by
  have hlt:cb<w.heap.size:=(Array.getElem?_eq_some_iff.1 hc).1;obtain⟨c1,h1,s1,k1⟩:=h.row cb c e f hc;obtain⟨c2,h2,s2,k2⟩:=h'.row cb c1 e f h1;exact⟨c2,h2,s2.trans s1,fun o ho=>(k2 o (h.free cb o hlt ho)).trans (k1 o ho)⟩
 other cb x hx hn ho:=by
  have hlt:cb<w.heap.size:=(Array.getElem?_eq_some_iff.1 hx).1;exact h'.other cb x (h.other cb x hx hn ho) hn (fun o=>h.free cb o hlt (ho o))
 loops cb r hc:=let ⟨_,h1⟩:=h.loops cb r hc;h'.loops cb _ h1
theorem Sim.drew{G:Nat}{s:St}{J:Nat->Plc}{w:World}(h:Sim G s J w):Sim G s J w.drew:=⟨h.live,h.obj,h.apart,h.glob⟩
theorem Step.drew(s:St)(J:Nat->Plc)(w:World):Step s J w s J w.drew:=
 ⟨Nat.le_refl _,fun _ _=>rfl,Nat.le_refl _,rfl,rfl,⟨rfl,Nat.le_succ _⟩,fun _ _ _ h=>h,fun _ c _ _ h=>⟨c,h,rfl,fun _ _=>rfl⟩,fun _ _ h _ _=>h,fun _ r h=>⟨r,h⟩⟩
def VRs(n:Nat)(J:Nat->Plc)(A:List Value)(tmps:Array Value):Prop:=
 A.length=tmps.size/\∀(i:Nat) (x y:Value),A[i]?=some x->tmps[i]?=some y->VR n J false x y
end Go.Zz
namespace Go.Zz
open Go
def St.alloc(s:St)(o:AObj):St:={ heap:=fun b=>if b=s.next then some o else s.heap b,next:=s.next+1 }
def St.put(s:St)(b:Nat)(o:AObj):St:={ heap:=fun x=>if x=b then some o else s.heap x,next:=s.next }
def putJ(J:Nat->Plc)(b:Nat)(m:Plc):Nat->Plc:=fun x=>if x=b then m else J x
def lwr(vs:List Value)(o:Nat)(xs:List Value):List Value:=vs.take o++xs++vs.drop (o+xs.length)
theorem B7q{vs:List Value}{o:Nat}{xs:List Value}(h:o<=vs.length):(lwr vs o xs).length=max vs.length (o+xs.length):=by
 simp[lwr];omega
theorem B4e{vs:List Value}{o:Nat}{xs:List Value}(h:o+xs.length<=vs.length):(lwr vs o xs).length=vs.length:=by
 rw[B7q (by omega)];omega
theorem F62{vs:List Value}{o:Nat}{xs:List Value}(h:o<=vs.length)(i:Nat) :
  (lwr vs o xs)[i]?=if o<=i/\i<o+xs.length then xs[i-o]? else vs[i]?:=by
 have ht:(vs.take o).length=o:=by simp;omega
 unfold lwr;by_cases h1:i<o
 ·rw[List.append_assoc,List.getElem?_append_left (by omega),List.getElem?_take_of_lt h1,if_neg (by omega)]
 ·by_cases h2:i<o+xs.length
  ·rw[List.append_assoc,List.getElem?_append_right (by omega),List.getElem?_append_left (by omega),if_pos (by omega),ht]
  ·rw[List.getElem?_append_right (by simp;omega),List.getElem?_drop,if_neg (by omega)]
   congr 1;simp;omega
def awr(c:Array Value):Nat->List Value->Array Value
 | _,[]=>c
 | o,v::r=>awr (c.setIfInBounds o v) (o+1) r
theorem B34:∀(ys:List Value) (c:Array Value) (o:Nat),(awr c o ys).size=c.size
 | [],_,_=>rfl
 | v::r,c,o=>by rw[awr,B34 r];simp
theorem D9t:∀(ys:List Value) (c:Array Value) (o i:Nat),o+ys.length<=c.size->
  (awr c o ys)[i]?=if o<=i/\i<o+ys.length then ys[i-o]? else c[i]?
 | [],c,o,i,_=>by simp[awr];omega
 | v::r,c,o,i,h=>by
  simp at h;rw[awr,D9t r _ (o+1) i (by simp;omega)]
  by_cases h1:i=o
  ·subst h1;have hlt:i<c.size:=by omega
   rw[if_neg (by omega),if_pos (by simp)]
   simp[Array.getElem?_setIfInBounds,hlt]
  ·by_cases h2:o+1<=i/\i<o+1+r.length
   ·rw[if_pos h2,if_pos (by simp;omega),show i-o=(i-(o+1))+1 by omega]
    simp
   ·rw[if_neg h2,if_neg (by simp;omega),Array.getElem?_setIfInBounds]
    simp[Ne.symm h1]
theorem B1v:∀(ys:List Value) (w:World) (b o:Nat) (c:Array Value) (e:TypeId) (f:Nat×Nat),w.heap[b]?=some (.cells c e f)->
  (w.setCells b o ys).heap[b]?=some (.cells (awr c o ys) e f)
 | [],_,_,_,_,_,_,h=>h
 | v::r,w,b,o,c,e,f,h=>by
  rw[World.setCells,awr];refine B1v r _ b (o+1) _ e f ?_;simp[World.setCell,Array.getElem?_modify,h]
theorem A47:∀(ys:List Value) (w:World) (b o x:Nat),x≠b->(w.setCells b o ys).heap[x]?=w.heap[x]?
 | [],_,_,_,_,_=>rfl
 | v::r,w,b,o,x,h=>by
  rw[World.setCells,A47 r _ b (o+1) x h];simp[World.setCell,Array.getElem?_modify,Ne.symm h]
theorem B1a:∀(ys:List Value) (w:World) (b o:Nat),(w.setCells b o ys).heap.size=w.heap.size/\(w.setCells b o ys).os=w.os/\(w.setCells b o ys).output=w.output/\((w.setCells b o ys).tape=w.tape/\w.drawn<=(w.setCells b o ys).drawn)
 | [],_,_,_=>⟨rfl,rfl,rfl,rfl,Nat.le_refl _⟩
 | v::r,w,b,o=>by
  obtain⟨h1,h2,h3,h4,h5⟩:=B1a r (w.setCell ⟨b,o,none⟩ v) b (o+1);rw[World.setCells];exact⟨by rw[h1];simp,by rw[h2];rfl,by rw[h3];rfl,by rw[h4];rfl,Nat.le_trans (Nat.le_refl _) h5⟩
theorem ObjR.mono{n n':Nat}{J J':Nat->Plc}{m:Plc}{w w':World}{x:AObj}(hn:n<=n')(hJ:∀b,b<n->J' b=J b)
  (hw:w'.heap[m.cb]?=w.heap[m.cb]?) (h:ObjR n J m w x):ObjR n' J' m w' x:=by
 cases x with
 | cells vs tail=>
  obtain⟨h1,h2,c,e,fr,hc,hs,hv,ho,hf⟩:=h;exact⟨h1,h2,c,e,fr,hw.trans hc,hs,fun i x hx=>let ⟨y,hy,hr⟩:=hv i x hx;⟨y,hy,hr.mono hn hJ⟩,ho,hf⟩
 | map es bs clock=>
  obtain⟨es',hc,hs,hbs,hv,h1,h2⟩:=h;exact⟨es',hw.trans hc,hs,hbs,fun i x y hx hy=>let ⟨a,b⟩:=hv i x y hx hy;⟨a.mono hn hJ,b.mono hn hJ⟩,h1,h2⟩
 | iter r since seen stepped=>
  obtain⟨h0,r',hc,hr⟩:=h;exact⟨h0,r',hw.trans hc,hr.imp id fun⟨q,h1,h2,h3⟩=>⟨q,h1,Nat.lt_of_lt_of_le h2 hn,by rw[hJ q h2];exact h3⟩⟩
 | loop A ps assign body st pend=>
  obtain⟨L,hc,h1,h2,h3,h4,h5,h6,h7⟩:=h;exact⟨L,hw.trans hc,h1,h2,h3,h4,h5,h6,fun i x y hx hy=>(h7 i x y hx hy).mono hn hJ⟩
theorem ObjR.cells_of{n:Nat}{J:Nat->Plc}{m:Plc}{w w':World}{vs:List Value}{tail:Bool}{c c':Array Value}{e:TypeId}{fr:Nat×Nat}
  (hw:w.heap[m.cb]?=some (.cells c e fr)) (hw':w'.heap[m.cb]?=some (.cells c' e fr)) (hs:c'.size=c.size)
  (hsame:∀i,i<m.ext->c'[m.k+i]?=c[m.k+i]?) (h:ObjR n J m w (.cells vs tail)):ObjR n J m w' (.cells vs tail):=by
 obtain⟨h1,h2,c0,e0,fr0,hc,hsz,hv,ho,hf⟩:=h;rw[hw]at hc;cases hc;refine⟨h1,h2,c',e,fr,hw',by omega,fun i x hx=>?_,fun i hi=>?_,hf⟩
 ·obtain⟨y,hy,hr⟩:=hv i x hx;exact⟨y,by rw[hsame i (Nat.lt_of_lt_of_le (List.getElem?_eq_some_iff.1 hx).1 h1)];exact hy,hr⟩
 ·obtain⟨y,hy,hr⟩:=ho i hi;exact⟨y,by rw[hsame i hi];exact hy,hr⟩
theorem ObjR.lt{n:Nat}{J:Nat->Plc}{m:Plc}{w:World}{x:AObj}(h:ObjR n J m w x):m.cb<w.heap.size:=by
 cases x with
 | cells vs tail=>obtain⟨_,_,c,e,fr,hc,_⟩:=h;exact(Array.getElem?_eq_some_iff.1 hc).1
 | map es=>obtain⟨es',hc,_⟩:=h;exact(Array.getElem?_eq_some_iff.1 hc).1
 | iter=>obtain⟨_,r',hc,_⟩:=h;exact(Array.getElem?_eq_some_iff.1 hc).1
 | loop=>obtain⟨L,hc,_⟩:=h;exact(Array.getElem?_eq_some_iff.1 hc).1
theorem Owns.cb{m:Plc}{x:AObj}{cb o:Nat}(h:Owns m x cb o):m.cb=cb:=by cases x with
 | cells vs tail=>exact h.1
 | _=>exact h
variable {G : Nat} {s : St} {J : Nat → Plc} {w : World}
theorem Sim.new(h:Sim G s J w)(x:AObj)(o:Obj)(m:Plc)(hm:m.cb=w.heap.size)
  (hx:ObjR (s.next+1) (putJ J s.next m) m (w.alloc o) x) :
  Sim G (s.alloc x) (putJ J s.next m) (w.alloc o)/\Step s J w (s.alloc x) (putJ J s.next m) (w.alloc o):=by
 have hJ:∀b,b<s.next->putJ J s.next m b=J b:=fun b hb=>by simp[putJ,Nat.ne_of_lt hb]
 have hold:∀b y,s.heap b=some y->(J b).cb<w.heap.size:=fun b y hy=>(h.obj b y hy).lt;have hheap:∀k,k<w.heap.size->(w.alloc o).heap[k]?=w.heap[k]?:=fun k hk=>by
  simp only[World.alloc,Array.getElem?_push];simp[Nat.ne_of_lt hk]
 have hown:∀cb o',cb<w.heap.size->¬A72 s J cb o'->¬A72 (s.alloc x) (putJ J s.next m) cb o':=by
  rintro cb o' hcb hn ⟨b,y,hy,ho⟩;simp only[St.alloc]at hy;split at hy
  ·rename_i hb;subst hb;have:=ho.cb;simp[putJ,hm]at this;omega
  ·exact hn ⟨b,y,hy,by rwa [hJ b (h.live b y hy)]at ho⟩
 refine⟨⟨?_,?_,?_,?_⟩,⟨by simp[St.alloc],hJ,by simp,rfl,rfl,⟨rfl,Nat.le_refl _⟩,hown,?_,?_,fun cb r hc=>⟨r,(hheap cb (Array.getElem?_eq_some_iff.1 hc).1).trans hc⟩⟩⟩
 ·intro b y hy;simp only[St.alloc]at hy ⊢;split at hy
  ·omega
  ·have:=h.live b y hy;omega
 ·intro b y hy;simp only[St.alloc]at hy ⊢;split at hy
  ·rename_i hb;cases hy;subst hb;simpa[putJ]using hx
  ·have hlt:=h.live b y hy;rw[hJ b hlt];exact(h.obj b y hy).mono (Nat.le_succ _) hJ (hheap _ (hold b y hy))
 ·intro b b' y y' cb o' hne hy hy' ho ho';simp only[St.alloc]at hy hy';split at hy
  ·rename_i hb;split at hy'
   ·omega
   ·rw[hJ b' (h.live b' y' hy')]at ho';have h1:=ho.cb;have h2:=ho'.cb;have:=hold b' y' hy';simp[putJ,hb,hm]at h1;omega
  ·rw[hJ b (h.live b y hy)]at ho;split at hy'
   ·rename_i hb;have h1:=ho.cb;have h2:=ho'.cb;have:=hold b y hy;simp[putJ,hb,hm]at h2;omega
   ·rw[hJ b' (h.live b' y' hy')]at ho';exact h.apart b b' y y' cb o' hne hy hy' ho ho'
 ·intro g hg;obtain⟨h1,h2,h3⟩:=h.glob g hg;exact⟨by simp[St.alloc];omega,by rw[hJ g h1];exact h2,by rw[hJ g h1];exact h3⟩
 ·intro cb c e f hc;exact⟨c,(hheap cb (Array.getElem?_eq_some_iff.1 hc).1).trans hc,rfl,fun _ _=>rfl⟩
 ·intro cb y hy _ _;exact(hheap cb (Array.getElem?_eq_some_iff.1 hy).1).trans hy
theorem Sim.write(h:Sim G s J w){b:Nat}{vs:List Value}{tail:Bool}(hb:s.heap b=some (.cells vs tail))(o:Nat)(xs ys:List Value)
  (hl:xs.length=ys.length) (hx:∀(i:Nat) (x y:Value),xs[i]?=some x->ys[i]?=some y->VR s.next J true x y)
  (ho:o<=vs.length) (hfit:o+xs.length<=(J b).ext) :
  Sim G (s.put b (.cells (lwr vs o xs) tail)) J (w.setCells (J b).cb ((J b).k+o) ys)/\
  Step s J w (s.put b (.cells (lwr vs o xs) tail)) J (w.setCells (J b).cb ((J b).k+o) ys):=by
 obtain⟨h1,h2,c,e,fr,hc,hsz,hv,hone,hfr⟩:=h.obj b _ hb;obtain⟨r1,r2,r3,r4⟩:=B1a ys w (J b).cb ((J b).k+o);have hnew:=B1v ys w (J b).cb ((J b).k+o) c e fr hc;have hget:∀i,(awr c ((J b).k+o) ys)[i]?=if(J b).k+o<=i/\i<(J b).k+o+ys.length then ys[i-((J b).k+o)]? else c[i]?:=
  fun i=>D9t ys c ((J b).k+o) i (by omega)
 have hvr:∀y∈ys,y.oneCell'=true:=by
  intro y hy;obtain⟨i,hi,rfl⟩:=List.getElem_of_mem hy;exact(hx i _ _ (List.getElem?_eq_getElem (by omega)) (List.getElem?_eq_getElem hi)).one_right
 have hown:∀cb o',A72 (s.put b (.cells (lwr vs o xs) tail)) J cb o'↔A72 s J cb o':=by
  intro cb o';constructor
  ·rintro⟨b',y,hy,hw⟩;simp only[St.put]at hy;split at hy
   ·rename_i he;cases hy;exact⟨b,_,hb,by rw[he]at hw;exact hw⟩
   ·exact⟨b',y,hy,hw⟩
  ·rintro⟨b',y,hy,hw⟩;by_cases he:b'=b
   ·subst he;rw[hb]at hy;cases hy;exact⟨b',.cells (lwr vs o xs) tail,by simp[St.put],hw⟩
   ·exact⟨b',y,by simpa[St.put,he]using hy,hw⟩
 have hout:∀i,¬A72 s J (J b).cb i->(awr c ((J b).k+o) ys)[i]?=c[i]?:=by
  intro i hi;rw[hget,if_neg];rintro⟨g1,g2⟩;exact hi ⟨b,_,hb,rfl,by omega,by omega⟩
 refine⟨⟨?_,?_,?_,h.glob⟩,⟨Nat.le_refl _,fun _ _=>rfl,by omega,r2,r3,r4,fun cb o' _ hn=>by rw[hown];exact hn,?_,?_,fun cb r hr=>⟨r,(A47 _ _ _ _ _ (fun he=>by subst he;rw[hc]at hr;cases hr)).trans hr⟩⟩⟩
 ·intro b' y hy;simp only[St.put]at hy ⊢;split at hy
  ·rename_i he;subst he;exact h.live b' _ hb
  ·exact h.live b' y hy
 ·intro b' y hy;simp only[St.put]at hy ⊢;split at hy
  ·rename_i he;cases hy;subst he;refine⟨by rw[B7q ho];omega,fun ht=>?_,_,e,fr,hnew,by rw[B34];exact hsz,fun i x hxi=>?_,fun i hi=>?_,hfr⟩
   ·have:=h2 ht;rw[B4e (by omega)];exact this
   ·rw[F62 ho]at hxi;split at hxi
    ·rename_i hin;have hyl:i-o<ys.length:=by omega
     refine⟨_,?_,hx (i-o) x _ hxi (List.getElem?_eq_getElem hyl)⟩;rw[hget,if_pos (by omega),show(J b').k+i-((J b').k+o)=i-o by omega]
     exact List.getElem?_eq_getElem hyl
    ·rename_i hin;obtain⟨y,hy,hr⟩:=hv i x hxi;exact⟨y,by rw[hget,if_neg (by omega)];exact hy,hr⟩
   ·by_cases hin:o<=i/\i<o+ys.length
    ·have hyl:i-o<ys.length:=by omega
     refine⟨ys[i-o],?_,hvr _ (List.getElem_mem hyl)⟩;rw[hget,if_pos (by omega),show(J b').k+i-((J b').k+o)=i-o by omega]
     exact List.getElem?_eq_getElem hyl
    ·obtain⟨y,hy,hr⟩:=hone i hi;exact⟨y,by rw[hget,if_neg (by omega)];exact hy,hr⟩
  ·rename_i he;have hR:=h.obj b' y hy;by_cases hcb:(J b').cb=(J b).cb
   ·cases y with
    | cells vs' tail'=>
     refine hR.cells_of (by rw[hcb];exact hc) (by rw[hcb];exact hnew) (B34 _ _ _) (fun i hi=>?_)
     rw[hget,if_neg];rintro⟨g1,g2⟩;exact h.apart b b' _ _ (J b).cb ((J b').k+i) (Ne.symm he) hb hy ⟨rfl,by omega,by omega⟩ ⟨hcb,by omega,by omega⟩
    | map es=>
     obtain⟨es',hm,_⟩:=hR;rw[hcb,hc]at hm;cases hm
    | iter=>
     obtain⟨_,r',hm,_⟩:=hR;rw[hcb,hc]at hm;cases hm
    | loop=>
     obtain⟨L,hm,_⟩:=hR;rw[hcb,hc]at hm;cases hm
   ·exact hR.mono (Nat.le_refl _) (fun _ _=>rfl) (A47 _ _ _ _ _ hcb)
 ·intro b1 b2 y1 y2 cb o' hne hy1 hy2 ho1 ho2;simp only[St.put]at hy1 hy2;split at hy1
  ·rename_i he1;cases hy1;split at hy2
   ·omega
   ·subst he1;exact h.apart b1 b2 _ y2 cb o' hne hb hy2 ho1 ho2
  ·split at hy2
   ·rename_i he2;cases hy2;subst he2;exact h.apart b1 b2 y1 _ cb o' hne hy1 hb ho1 ho2
   ·exact h.apart b1 b2 y1 y2 cb o' hne hy1 hy2 ho1 ho2
 ·intro cb c0 e0 f0 hc0;by_cases hcb:cb=(J b).cb
  ·subst hcb;rw[hc]at hc0;cases hc0;exact⟨_,hnew,B34 _ _ _,hout⟩
  ·exact⟨c0,(A47 _ _ _ _ _ hcb).trans hc0,rfl,fun _ _=>rfl⟩
 ·intro cb y hy hnc _;have hcb:cb≠(J b).cb:=by
   rintro rfl;rw[hc]at hy;cases hy;exact hnc _ _ _ rfl
  exact(A47 _ _ _ _ _ hcb).trans hy
def World.putObj'(w:World)(r:Nat)(o:Obj):World:={ w with heap:=w.heap.setIfInBounds r o }
def AObj.whole:AObj->Bool
 | .cells _ _=>false
 | _=>true
def Obj.row:Obj->Bool
 | .cells _ _ _=>true
 | _=>false
theorem ObjR.whole{n:Nat}{J:Nat->Plc}{m:Plc}{w:World}{x:AObj}(h:ObjR n J m w x)(hx:x.whole=true):∃o,w.heap[m.cb]?=some o/\Obj.row o=false:=by
 cases x with
 | cells vs tail=>cases hx
 | map es=>obtain⟨es',hm,_⟩:=h;exact⟨_,hm,rfl⟩
 | iter=>obtain⟨_,r',hm,_⟩:=h;exact⟨_,hm,rfl⟩
 | loop=>obtain⟨L,hm,_⟩:=h;exact⟨_,hm,rfl⟩
theorem Owns.whole{m:Plc}{x:AObj}(hx:x.whole=true)(cb o:Nat):Owns m x cb o↔m.cb=cb:=by cases x<;>first|(cases hx;done)|exact Iff.rfl
theorem Sim.putWhole(h:Sim G s J w){b:Nat}{x1 x2:AObj}(hb:s.heap b=some x1)(hw1:x1.whole=true)(hw2:x2.whole=true)(o:Obj)(hlp:∀A ps aC bd st pe,x1=.loop A ps aC bd st pe->∃r':Loop,o=Obj.loop r')
  (hx:∀w',w'.heap[(J b).cb]?=some o->ObjR s.next J (J b) w' x2) :
  Sim G (s.put b x2) J (World.putObj' w (J b).cb o)/\Step s J w (s.put b x2) J (World.putObj' w (J b).cb o):=by
 obtain⟨o0,hc,hrow0⟩:=(h.obj b _ hb).whole hw1;have hlt:(J b).cb<w.heap.size:=(Array.getElem?_eq_some_iff.1 hc).1;have hsame:(World.putObj' w (J b).cb o).heap[(J b).cb]?=some o:=by simp[World.putObj',hlt]
 have hoth:∀k,k≠(J b).cb->(World.putObj' w (J b).cb o).heap[k]?=w.heap[k]?:=fun k hk=>by
  simp only[World.putObj',Array.getElem?_setIfInBounds];simp[Ne.symm hk]
 have hown:∀cb o',A72 (s.put b x2) J cb o'↔A72 s J cb o':=by
  intro cb o';constructor
  ·rintro⟨b',y,hy,hw⟩;simp only[St.put]at hy;split at hy
   ·rename_i he;cases hy;exact⟨b,_,hb,by rw[he,Owns.whole hw2]at hw;exact(Owns.whole hw1 _ _).2 hw⟩
   ·exact⟨b',y,hy,hw⟩
  ·rintro⟨b',y,hy,hw⟩;by_cases he:b'=b
   ·subst he;rw[hb]at hy;cases hy;exact⟨b',x2,by simp[St.put],(Owns.whole hw2 _ _).2 ((Owns.whole hw1 _ _).1 hw)⟩
   ·exact⟨b',y,by simpa[St.put,he]using hy,hw⟩
 have hloops:∀(cb:Nat) (r:Loop),w.heap[cb]?=some (Obj.loop r)->∃r':Loop,(World.putObj' w (J b).cb o).heap[cb]?=some (Obj.loop r'):=by
  intro cb r hr;by_cases he:cb=(J b).cb
  ·subst he;have hR:=h.obj b _ hb;cases x1 with
   | cells vs t=>cases hw1
   | map es bs c=>obtain⟨es',hc',_⟩:=hR;rw[hr]at hc';cases hc'
   | iter=>obtain⟨_,r',hc',_⟩:=hR;rw[hr]at hc';cases hc'
   | loop A ps aC bd st pe=>
    obtain⟨r',rfl⟩:=hlp _ _ _ _ _ _ rfl;exact⟨r',hsame⟩
  ·exact⟨r,(hoth cb he).trans hr⟩
 have hcbne:∀b' y,b'≠b->s.heap b'=some y->(J b').cb≠(J b).cb:=by
  intro b' y hne hy he;have hR:=h.obj b' y hy;cases y with
  | cells vs t=>
   obtain⟨_,_,c,e,f,hc',_⟩:=hR;rw[he,hc]at hc';cases hc';cases hrow0
  | _=>exact h.apart b b' _ _ (J b).cb 0 (Ne.symm hne) hb hy ((Owns.whole hw1 _ _).2 rfl) he
 refine⟨⟨?_,?_,?_,h.glob⟩,⟨Nat.le_refl _,fun _ _=>rfl,by simp[World.putObj'],rfl,rfl,⟨rfl,Nat.le_refl _⟩,fun cb o' _ hn=>by rw[hown];exact hn,?_,?_,hloops⟩⟩
 ·intro b' y hy;simp only[St.put]at hy ⊢;split at hy
  ·rename_i he;subst he;exact h.live b' _ hb
  ·exact h.live b' y hy
 ·intro b' y hy;simp only[St.put]at hy ⊢;split at hy
  ·rename_i he;cases hy;subst he;exact hx _ hsame
  ·rename_i he;exact(h.obj b' y hy).mono (Nat.le_refl _) (fun _ _=>rfl) (hoth _ (hcbne b' y he hy))
 ·intro b1 b2 y1 y2 cb o' hne hy1 hy2 ho1 ho2;simp only[St.put]at hy1 hy2;split at hy1
  ·rename_i he1;cases hy1;split at hy2
   ·omega
   ·subst he1;exact h.apart b1 b2 _ y2 cb o' hne hb hy2 ((Owns.whole hw1 _ _).2 ((Owns.whole hw2 _ _).1 ho1)) ho2
  ·split at hy2
   ·rename_i he2;cases hy2;subst he2;exact h.apart b1 b2 y1 _ cb o' hne hy1 hb ho1 ((Owns.whole hw1 _ _).2 ((Owns.whole hw2 _ _).1 ho2))
   ·exact h.apart b1 b2 y1 y2 cb o' hne hy1 hy2 ho1 ho2
 ·intro cb c0 e0 f0 hc0;have hcb:cb≠(J b).cb:=by
   rintro rfl;rw[hc]at hc0;cases hc0;cases hrow0
  exact⟨c0,(hoth cb hcb).trans hc0,rfl,fun _ _=>rfl⟩
 ·intro cb y hy hnc hno;have hcb:cb≠(J b).cb:=by
   rintro rfl;exact hno 0 ⟨b,_,hb,(Owns.whole hw1 _ _).2 rfl⟩
  exact(hoth cb hcb).trans hy
theorem Sim.putMap(h:Sim G s J w){b:Nat}{es es1:List (Value×Value)}{bs bs1:List Nat}{c c1:Nat}(hb:s.heap b=some (.map es bs c))(o:Obj)
  (hx:∀w',w'.heap[(J b).cb]?=some o->ObjR s.next J (J b) w' (.map es1 bs1 c1)) :
  Sim G (s.put b (.map es1 bs1 c1)) J (World.putObj' w (J b).cb o)/\Step s J w (s.put b (.map es1 bs1 c1)) J (World.putObj' w (J b).cb o):=h.putWhole hb rfl rfl o (fun _ _ _ _ _ _ h=>by cases h) hx
theorem Sim.forget{s':St}{J':Nat->Plc}{w':World}(h:Sim G s J w)(h':Sim G s' J' w')(hs:Step s J w s' J' w')(hsame:∀b,b<s.next->s'.heap b=s.heap b) :
  Sim G s J' w'/\Step s J w s J' w':=by
 have hbel:∀b x,s.heap b=some x->∀(i:Nat) (y:Value),(match x with|.cells vs _=>vs[i]?=some y|.map es _ _=>∃e,es[i]?=some e/\(y=e.1\/y=e.2)|.iter _ _ _ _=>False|.loop A _ _ _ _ _=>A[i]?=some y)->Bel s.next y:=by
  intro b x hx i y hy;have hR:=h.obj b x hx;cases x with
  | cells vs t=>obtain⟨_,_,c,e,f,_,_,hv,_⟩:=hR;obtain⟨z,_,hr⟩:=hv i y hy;exact hr.bel
  | iter=>exact hy.elim
  | loop A=>
   obtain⟨L,hc,_,_,_,_,_,hl,hv⟩:=hR;have hi:i<L.tmps.size:=by rw[<-hl];exact(List.getElem?_eq_some_iff.1 hy).1
   exact(hv i y _ hy (Array.getElem?_eq_getElem hi)).bel
  | map es=>
   obtain⟨es',hc,hl,_,hv,_⟩:=hR;obtain⟨e,he,hy⟩:=hy;have hi:i<es'.size:=by rw[<-hl];exact(List.getElem?_eq_some_iff.1 he).1
   obtain⟨h1,h2⟩:=hv i e _ he (Array.getElem?_eq_getElem hi);rcases hy with rfl|rfl
   ·exact h1.bel
   ·exact h2.bel
 have hown:∀cb o,A72 s J' cb o↔A72 s J cb o:=by
  intro cb o;constructor
  ·rintro⟨b,x,hx,ho⟩;exact⟨b,x,hx,by rwa [hs.ext b (h.live b x hx)]at ho⟩
  ·rintro⟨b,x,hx,ho⟩;exact⟨b,x,hx,by rwa [hs.ext b (h.live b x hx)]⟩
 refine⟨⟨h.live,?_,?_,?_⟩,⟨Nat.le_refl _,hs.ext,hs.size,hs.os,hs.out,hs.tape,fun cb o _ hn=>by rw[hown];exact hn,hs.row,hs.other,hs.loops⟩⟩
 ·intro b x hx;have hlt:=h.live b x hx;have hR:=h'.obj b x ((hsame b hlt).trans hx);have hb:=hbel b x hx;cases x with
  | cells vs t=>
   obtain⟨h1,h2,c,e,f,hc,hsz,hv,ho,hf⟩:=hR;exact⟨h1,h2,c,e,f,hc,hsz,fun i y hy=>let ⟨z,hz,hr⟩:=hv i y hy;⟨z,hz,hr.down (fun _ _=>rfl) (hb i y hy)⟩,ho,hf⟩
  | iter r since seen stepped=>
   obtain⟨h0,r',hc,hr⟩:=hR;refine⟨h0,r',hc,?_⟩;obtain⟨_,r'',hc0,hr0⟩:=h.obj b _ hx;rcases hr with hr|⟨q,rfl,hq,rfl⟩
   ·exact .inl hr
   ·rcases hr0 with⟨hr0,_⟩|⟨q',hq',hlt',_⟩
    ·cases hr0
    ·cases hq';exact .inr ⟨q,rfl,hlt',rfl⟩
  | loop A ps assign body st pend=>
   obtain⟨L,hc,h1,h2,h3,h4,h5,h6,h7⟩:=hR;exact⟨L,hc,h1,h2,h3,h4,h5,h6,fun i x y hx hy=>(h7 i x y hx hy).down (fun _ _=>rfl) (hb i x hx)⟩
  | map es=>
   obtain⟨es',hc,hl,hbs,hv,h1,h2⟩:=hR;exact⟨es',hc,hl,hbs,fun i y z hy hz=>let ⟨a,b⟩:=hv i y z hy hz;⟨a.down (fun _ _=>rfl) (hb i _ ⟨y,hy,.inl rfl⟩),b.down (fun _ _=>rfl) (hb i _ ⟨y,hy,.inr rfl⟩)⟩,h1,h2⟩
 ·intro b b' x x' cb o hne hx hx' ho ho';rw[hs.ext b (h.live b x hx)]at ho;rw[hs.ext b' (h.live b' x' hx')]at ho';exact h.apart b b' x x' cb o hne hx hx' ho ho'
 ·intro g hg;obtain⟨h1,h2,h3⟩:=h.glob g hg;exact⟨h1,by rw[hs.ext g h1];exact h2,by rw[hs.ext g h1];exact h3⟩
end Go.Zz
