import Derived.Test.YtnghaapdoanabaaGreatDoorO
import Derived.RangeFuncRecord
import Derived.RangeFuncLeaves
set_option linter.all false
namespace Go.Zz
open Go
variable {P : Program} {G : Nat} {F : Fence} {C : A33}
def unl(listed:Array Bool)(n:Nat):Nat:=(List.range n).countP fun i=>!listed.getD i true
theorem C9i{n i:Nat}{p q:Nat->Bool}(hi:i<n)(hp:p i=true)(hq:q i=false)(h:∀j,j≠i->q j=p j):(List.range n).countP q+1=(List.range n).countP p:=by
 have same:∀m,m<=i->(List.range m).countP q=(List.range m).countP p:=by
  intro m hm;apply List.countP_congr;intro j hj;rw[List.mem_range]at hj;rw[h j (by omega)]
 induction n with
 | zero=>omega
 | succ n ih=>
  rw[List.range_succ,List.countP_append,List.countP_append];by_cases hin:i=n
  ·subst hin;rw[same i (Nat.le_refl _)];simp[hp,hq]
  ·have:=ih (by omega)
   have:q n=p n:=h n (Ne.symm hin);simp only[List.countP_singleton,this];omega
theorem F0j{N:Nat}(hF:Wide F)(hC:B9s P G C)(hG:1000<=G){ops:Array Oper}{p:Plan}{A:Fr}{K:Fr->St->Prop}{s0:St}{J0:Nat->Plc}{w0:World}{a0:Act}{Q:Exit->Act->World->Prop}(ok:Ok P ops.toList p N)
  (hQ:∀s J a w,∀A',K A' s->Sim G s J w->VRf N s.next J A' a.tmps->a.defers=a0.defers->Step s0 J0 w0 s J w->Q .normal a w) :
  ∀(fuel:Nat) (listed:Array Bool) (a:Act) (w:World),listed.size=ops.size->unl listed ops.size<=fuel->
   (∃g vals s J cv,Stt P G N C ops.toList p A (fun vals s'=>K (finD N ops.toList vals A ops.toList.length) s') s0 J0 w0 a0 (fun j=>listed.getD j false=true) g vals s J cv a w)->
   wpAnyIn F 0 P .any ops Q fuel listed a w:=by
 have fin:∀(listed:Array Bool) (a:Act) (w:World),listed.size=ops.size->Region.ready .any ops listed=[]->
   (∃g vals s J cv,Stt P G N C ops.toList p A (fun vals s'=>K (finD N ops.toList vals A ops.toList.length) s') s0 J0 w0 a0 (fun j=>listed.getD j false=true) g vals s J cv a w)->Q .normal a w:=by
  rintro listed a w hsz hrd ⟨g,vals,s,J,cv,h⟩;have hall:∀j,j<ops.toList.length->listed.getD j false=true:=by
   intro j;induction j using Nat.strongRecOn with
   | _ j ih=>
    intro hj;rw[Array.length_toList]at hj;have ho:ops[j]?=some ops[j]:=Array.getElem?_eq_getElem hj;cases hl:listed.getD j false with
    | true=>rfl
    | false=>
     have:j∈Region.ready .any ops listed:=mem_ready.2 ⟨by
      rw[Array.getD_eq_getD_getElem?,Array.getElem?_eq_getElem (by omega)]at hl ⊢
      exact hl,ops[j],ho,fun e he hb=>?_⟩
     ·rw[hrd]at this;cases this
     ·have hlt:=ok.back j _ (by simpa using ho) e he hb
      exact ih e.on hlt (by rw[Array.length_toList];omega)
  obtain⟨vals',s',J',h1,h2,h3,h4,h5⟩:=h.done ok rfl hall;exact hQ s' J' a w _ h1 h2 h4 h5 h3
 intro fuel;induction fuel with
 | zero=>
  intro listed a w hsz hu hst;have hrd:Region.ready .any ops listed=[]:=by
   apply List.eq_nil_iff_forall_not_mem.2;intro i hi;obtain⟨h1,o,ho,_⟩:=mem_ready.1 hi;have hlt:=(Array.getElem?_eq_some_iff.1 ho).1;have:unl listed ops.size=0:=by omega
   unfold unl at this;rw[List.countP_eq_zero]at this;have:=this i (List.mem_range.2 hlt);simp[h1]at this
  exact⟨hrd,fin listed a w hsz hrd hst⟩
 | succ fuel ih=>
  intro listed a w hsz hu hst;refine⟨fun hrd=>fin listed a w hsz hrd hst,fun i hi=>?_⟩;obtain⟨h1,o,ho,hr⟩:=mem_ready.1 hi;have hlt:=(Array.getElem?_eq_some_iff.1 ho).1;obtain⟨g,vals,s,J,cv,h⟩:=hst;have hni:¬listed.getD i false=true:=by
   rw[Array.getD_eq_getD_getElem?,Array.getElem?_eq_getElem (by omega)]at h1 ⊢
   simp at h1;simp[h1]
  refine wpOpIn_mono (fun a' w' h'=>?_) (h.one hF hC hG rfl ok rfl (i:=i) (o:=o) (by simpa using ho) hni hr)
  refine ih _ a' w' (by simpa using hsz) ?_ ?_
  ·have:unl (listed.setIfInBounds i true) ops.size+1=unl listed ops.size:=C9i hlt (by simp[h1]) (by simp[hsz,hlt]) (fun j hj=>by
    simp[Array.getElem?_setIfInBounds_ne (Ne.symm hj)])
   omega
  ·have e:(fun j=>(listed.setIfInBounds i true).getD j false=true)=(fun k=>listed.getD k false=true\/k=i):=by
    funext j;by_cases hj:j=i
    ·subst hj;simp[hsz,hlt]
    ·simp[Array.getElem?_setIfInBounds_ne (Ne.symm hj),hj]
   rw[e];exact h'
theorem E2f{N:Nat}{ds:List Deferred}{p:Plan}(hF:Wide F)(hC:B9s P G C)(hG:1000<=G)(hm:P.follows .mixedOrders=true){id:Nat}{ops:Array Oper}{A:Fr}{K:Fr->St->Prop}{s0 s:St}{J0 J:Nat->Plc}{w0 w:World}{a:Act}{Q:Exit->Act->World->Prop}
  (h:D3u P C N p ops.toList K A s) (hS:Sim G s J w) (hA:VRf N s.next J A a.tmps) (hd:a.defers=ds) (h0:Step s0 J0 w0 s J w)
  (hQ:∀s J a w,∀A',K A' s->Sim G s J w->VRf N s.next J A' a.tmps->a.defers=ds->Step s0 J0 w0 s J w->Q .normal a w):(Code.region id ops true).wpIn F 0 P Q a w:=by
 unfold D3u at h;split at h
 ·rename_i hok;have ok:=D45 (P:=P) hok;refine wpIn_region_any hm (F0j (A:=A) hF hC hG (s0:=s) (J0:=J) (w0:=w.drew) (a0:=a) ok (fun s1 J1 a1 w1 A' k1 k2 k3 k4 k5=>hQ s1 J1 a1 w1 A' k1 k2 k3 (k4.trans hd) ((h0.trans (Step.drew s J w)).trans k5)) _ _ _ _ (by simp) (by
   unfold unl;refine Nat.le_trans List.countP_le_length ?_;simp) ?_)
  have hno:∀j,(Array.replicate ops.size false).getD j false=false:=fun j=>by
   by_cases hj:j<ops.size
   ·simp[hj]
   ·simp[hj]
  obtain⟨vals,e2,e3,e4,e5⟩:=enter ok ⟨fun i _ _ _ hi=>by omega,fun i _ hi=>by omega,fun i _ hi=>by omega⟩ h
  have non:∀{j:Nat},¬(Array.replicate ops.size false).getD j false=true:=fun {j} hj=>by rw[hno]at hj;cases hj
  refine⟨0,vals,s,J,fun _=>undef,Nat.zero_le _,fun j hj=>absurd hj non,fun i o _ hi=>absurd hi non,
   ⟨hS.drew,.refl _ _ _,hA,fun i hi=>absurd hi non,fun i hi=>absurd hi non,fun i j _ hi=>absurd hi non⟩,
   ⟨rfl,rfl,fun d j _ hj=>absurd hj non,fun _ _=>rfl⟩,fun k _=>⟨fun hk=>absurd hk non,fun hk=>by omega⟩,e3,e4,e2⟩
 ·exact h.elim
theorem C2u{N n:Nat}{J:Nat->Plc}{ops:Array Oper}{A:Fr}{a:Act}(hA:VRf N n J A a.tmps){g:Option (Nat×Bool)}{o:Oper}(hg:o.guard=g){c:Bool}(h:B80 ops A g=some c):Region.wanted o (yielded ops a.tmps)=c:=by
 unfold Region.wanted;rw[hg];cases g with
 | none=>cases h;rfl
 | some jb=>
  obtain⟨j,b⟩:=jb;simp only[B80]at h;split at h
  ·rename_i d hd;unfold A1j at h;split at h<;>(try cases h)
   ·rename_i b' hb';have hv:=hA.2 d;rw[hb']at hv;have hc:=hv.bool_inv;have hget:a.tmps[d]?=some (.bool b'):=by
     rw[Array.getD_eq_getD_getElem?]at hc;cases hx:a.tmps[d]? with
     | none=>rw[hx]at hc;cases hc
     | some y=>rw[hx]at hc;exact congrArg some hc
    simp only[yielded,hd,Option.bind_some,hget];cases b'<;>cases b<;>rfl
   ·rename_i hb';have hv:=hA.2 d;rw[hb']at hv;have hc:=hv.skip_inv;simp only[yielded,hd,Option.bind_some];rw[Array.getD_eq_getD_getElem?]at hc;cases hx:a.tmps[d]? with
    | none=>cases b<;>rfl
    | some y=>rw[hx]at hc;simp only[Option.getD_some]at hc;subst hc;simp only[undef];cases b<;>rfl
  ·cases h
theorem F2e{N:Nat}{ds:List Deferred}(hF:Wide F)(hC:B9s P G C)(hG:1000<=G){ops:Array Oper}{K:Fr->St->Prop}{s0:St}{J0:Nat->Plc}{w0:World}{Q:Exit->Act->World->Prop}
  (hQ:∀s J a w,∀A',K A' s->Sim G s J w->VRf N s.next J A' a.tmps->a.defers=ds->Step s0 J0 w0 s J w->Q .normal a w) :
  ∀(l:List Oper) (is:List Nat) (A:Fr) (s:St) (J:Nat->Plc) (a:Act) (w:World),is.map (fun i=>ops[i]?)=l.map some->B2x P C N ops K l A s->Sim G s J w->VRf N s.next J A a.tmps->a.defers=ds->Step s0 J0 w0 s J w->
   wpOpsIn F 0 P ops Q is a w:=by
 intro l;induction l with
 | nil=>
  intro is A s J a w his h hS hA hd h0;cases is with
  | nil=>exact hQ s J a w A h hS hA hd h0
  | cons i is=>simp at his
 | cons o l ih=>
  intro is A s J a w his h hS hA hd h0;cases is with
  | nil=>simp at his
  | cons i is=>
   simp only[List.map_cons,List.cons.injEq]at his;obtain⟨ho,his⟩:=his;simp only[wpOpsIn,ho];rw[C80]at h;rw[C64 (fun e=>by rw[e];rfl)]at h
   unfold gW at h;split at h
   ·rename_i hw;rw[C2u hA rfl hw];simp only[if_true];refine Oper.wpIn_mono ?_ (G4k hF hC hS hA hd h0 (fun x=>B2j hS hA x hG) h);rintro a' w' ⟨A',s',J',hk,hS',hA',hd',h0'⟩;exact ih is A' s' J' a' w' his hk hS' hA' hd' h0'
   ·rename_i hw;rw[C2u hA rfl hw];simp only[Bool.false_eq_true,if_false];refine⟨B2r hF o a,ih is _ s J _ w his h hS (hA.put o.dst .skip) ?_ h0⟩;cases o.dst<;>exact hd
   ·exact h.elim
theorem C0b{c:Code}{Q:Exit->Act->World->Prop}{n:Nat}{a:Act}{w:World}(h:∀I:Act->World->Prop,(∀a w,c.wpIn F n P (Exit.then I Q) a w->I a w)->I a w):(Code.loop c).wpIn F n P Q a w:=by
 intro b k cs hro hb hr;have key:=h (fun a w=>∃e a' w',Q e a' w'/\ArrivesIn (Machine.fenced P F) P (lone (b.atR a (.code c::.inLoop c::k)) cs w) b k cs e a' w') (by
  intro a w hc;obtain⟨e,a₁,w₁,hq,harr⟩:=hc b (.inLoop c::k) cs hro hb hr;cases e with
  | normal=>
   obtain⟨e₂,a₂,w₂,hq₂,harr₂⟩:=hq;exact⟨e₂,a₂,w₂,hq₂,.of_steps (StepsIn.trans harr (.one (fenced_calm hb hr rfl) stepR_inLoop)) harr₂⟩
  | exit id=>exact⟨_,a₁,w₁,hq,.pass (x:=.inLoop c) rfl (fun _ _=>.inl (by simp)) harr⟩
  | goto l=>exact⟨_,a₁,w₁,hq,.pass (x:=.inLoop c) rfl (fun _ _=>.inl (by simp)) harr⟩
  | ret=>exact⟨_,a₁,w₁,hq,.pass (x:=.inLoop c) rfl (fun _ _=>.inl (by simp)) harr⟩
  | panic ch=>exact⟨_,a₁,w₁,hq,.pass (x:=.inLoop c) rfl (fun _ _=>.inl (by simp)) harr⟩
  | outgrown=>exact⟨_,a₁,w₁,hq,.pass (x:=.inLoop c) rfl (fun _ _=>.inl (by simp)) harr⟩)
 obtain⟨e,a',w',hq,harr⟩:=key;exact⟨e,a',w',hq,.of_steps (.one (fenced_calm hb hr rfl) stepR_loop) harr⟩
def exOf:Ex->Exit
 | .normal=>.normal
 | .exit id=>.exit id
 | .ret=>.ret
theorem VRf.wipe{N n:Nat}{J:Nat->Plc}{t:Array Value}(l:List Nat){A:Fr}(h:VRf N n J A t):VRf N n J (wipe l A) t:=by
 refine⟨h.1,fun i=>?_⟩;unfold Zz.wipe;split
 ·exact .dc
 ·exact h.2 i
theorem VRf.list{N n:Nat}{J:Nat->Plc}{t:Array Value}{A:Fr}(h:VRf N n J A t):VRf N n J (ofL (toL N A)) t:=by
 refine⟨h.1,fun i=>?_⟩;unfold ofL toL;by_cases hi:i<N
 ·simpa[List.getD_eq_getElem?_getD,hi]using h.2 i
 ·simp only[List.getD_eq_getElem?_getD];rw[List.getElem?_eq_none (by simp;omega)]
  exact .dc
theorem A5x{P:Program}{b:Frame}{a:Act}{k:List Item}{cs:List Frame}{w:World}{c:Code}:step P (lone (b.atR a (.code (.scope c)::k)) cs w)=.next (lone (b.atR a (.code c::.inScope c::k)) cs w):=
 step_lone_go (by simp[stepG,stepG.exec,Frame.atR])
theorem C07{P:Program}{b:Frame}{a:Act}{k:List Item}{cs:List Frame}{w:World}{c:Code}:step P (lone (b.atR a (.inScope c::k)) cs w)=.next (lone (b.atR a k) cs w):=
 step_lone_go (by simp[stepG,stepG.exec,Frame.atR])
theorem D11{F:Fence}{n:Nat}{P:Program}{Q:Exit->Act->World->Prop}{a:Act}{w:World}{c:Code}(h:c.wpIn F n P (fun e a w=>(∀l,e≠.goto l)/\Q e a w) a w):(Code.scope c).wpIn F n P Q a w:=by
 intro b k cs hro hb hr;have h0:(lone (b.atR a (.code (.scope c)::k)) cs w).fenced P F:=fenced_calm hb hr rfl;obtain⟨e,a₁,w₁,hq,harr⟩:=h b (.inScope c::k) cs hro hb hr;cases e with
 | normal=>exact⟨.normal,a₁,w₁,hq.2,.head h0 A5x (StepsIn.trans harr (.one (fenced_calm hb hr rfl) C07))⟩
 | exit id=>
  have hx:exitTo id (.inScope c::k)=exitTo id k:=by simp[exitTo]
  exact⟨.exit id,a₁,w₁,hq.2,fun k' hk=>.head h0 A5x (harr.1 k' (by rw[hx];exact hk)),
   fun hr' hk=>let ⟨k₁,h1,h2⟩:=harr.2 hr' (by rw[hx];exact hk);⟨k₁,h1,.head h0 A5x h2⟩⟩
 | goto l=>exact absurd rfl (hq.1 l)
 | ret=>exact⟨_,a₁,w₁,hq.2,.of_steps (.one h0 A5x) harr⟩
 | panic ch=>exact⟨_,a₁,w₁,hq.2,.of_steps (.one h0 A5x) harr⟩
 | outgrown=>exact⟨_,a₁,w₁,hq.2,.of_steps (.one h0 A5x) harr⟩
def Dfs(w0 w:World)(ds:List Deferred):Prop:=∃Ds:List Nat,ds=Ds.map (fun D=>{ target:=.collected D,args:=#[] })/\Ds.Nodup/\∀D∈Ds,w0.heap.size<=D/\w.heap[D]?=some (.deferred (some []))
theorem B1z{s:St}{J:Nat->Plc}{w:World}(hS:Sim G s J w){D:Nat}{x:Option (List Deferred)}(h:w.heap[D]?=some (.deferred x))(o:Nat):¬A72 s J D o:=by
 rintro⟨b,y,hy,ho⟩;have hR:=hS.obj b y hy;have hcb:=ho.cb;cases y with
 | cells vs t=>obtain⟨_,_,c,e,f,hc,_⟩:=hR;rw[hcb,h]at hc;cases hc
 | map es=>obtain⟨es',hc,_⟩:=hR;rw[hcb,h]at hc;cases hc
 | iter=>obtain⟨_,r',hc,_⟩:=hR;rw[hcb,h]at hc;cases hc
 | loop=>obtain⟨L,hc,_⟩:=hR;rw[hcb,h]at hc;cases hc
theorem Dfs.step{s s':St}{J J':Nat->Plc}{w0 w w':World}{ds:List Deferred}(h:Dfs w0 w ds)(hS:Sim G s J w)(hs:Step s J w s' J' w'):Dfs w0 w' ds:=by
 obtain⟨Ds,h1,h2,h3⟩:=h;exact⟨Ds,h1,h2,fun D hD=>⟨(h3 D hD).1,hs.other D _ (h3 D hD).2 (fun _ _ _ h=>by cases h) (B1z hS (h3 D hD).2)⟩⟩
theorem C1w{N n:Nat}{J:Nat->Plc}:∀(ts:List Tmp) (vs:List Value) (vs':List Value) (A:Fr) (t:Array Value),VRf N n J A t->vs.length=vs'.length->
  (∀(i:Nat) (x y:Value),vs[i]?=some x->vs'[i]?=some y->VR n J false x y)->VRf N n J (B8j N ts vs A) ((ts.zip vs').foldl (fun t (p,v)=>t.setIfInBounds p v) t)
 | [],_,_,A,t,h,_,_=>by simpa[B8j]using h
 | _::_,[],[],A,t,h,_,_=>by simpa[B8j]using h
 | _::_,[],_::_,_,_,_,hl,_=>by simp at hl
 | _::_,_::_,[],_,_,_,hl,_=>by simp at hl
 | d::ts,v::vs,v'::vs',A,t,h,hl,hr=>by
  simp only[B8j,List.zip_cons_cons,List.foldl_cons];refine C1w ts vs vs' _ _ ?_ (by simpa using hl) (fun i x y hx hy=>hr (i+1) x y (by simpa using hx) (by simpa using hy))
  have:=h.put (a:={ tmps:=t,defers:=[] }) (some d) (hr 0 v v' rfl rfl);simpa[Act.put]using this
set_option maxHeartbeats 1000000 in
theorem E1w(hC:B9s P G C)(hG:1000<=G)(hm:P.follows .mixedOrders=true){H:Hint}(c:Code) :
  ∀{F:Fence} (_:Wide F) {s0:St} {J0:Nat->Plc} {w0:World} (_:∀l,F.round=some l->∃r:Loop,w0.heap[l]?=some (Obj.loop r)) (cur:Nat) (K:A0l) (A:Fr) (s:St) (J:Nat->Plc) (a:Act) (w:World) (Q:Exit->Act->World->Prop),evC P C H c cur K A s->Sim G s J w->VRf H.N s.next J A a.tmps->Dfs w0 w a.defers->Step s0 J0 w0 s J w->
   (∀ex A' s J a w,K ex A' s->Sim G s J w->VRf H.N s.next J A' a.tmps->Dfs w0 w a.defers->Step s0 J0 w0 s J w->Q (exOf ex) a w)->c.wpIn F 0 P Q a w:=by
 induction c with
 | skip=>intro F hF s0 J0 w0 hro cur K A s J a w Q h hS hA hd h0 hQ;exact wpIn_skip (hQ .normal A s J a w h hS hA hd h0)
 | label l=>intro F hF s0 J0 w0 hro cur K A s J a w Q h hS hA hd h0 hQ;exact wpIn_label (hQ .normal A s J a w h hS hA hd h0)
 | exit id=>intro F hF s0 J0 w0 hro cur K A s J a w Q h hS hA hd h0 hQ;exact wpIn_exit (hQ (.exit id) A s J a w h hS hA hd h0)
 | ret=>intro F hF s0 J0 w0 hro cur K A s J a w Q h hS hA hd h0 hQ;exact wpIn_ret (hQ .ret A s J a w h hS hA hd h0)
 | region id ops draw=>
  intro F hF s0 J0 w0 hro cur K A s J a w Q h hS hA hd h0 hQ;cases draw with
  | true=>exact E2f hF hC hG hm h hS hA rfl (.refl s J w) (fun s1 J1 a1 w1 A' k1 k2 k3 k4 k5=>hQ .normal A' s1 J1 a1 w1 k1 k2 k3 (k4▸hd.step hS k5) (h0.trans k5))
  | false=>
   refine wpIn_region (F2e (s0:=s) (J0:=J) (w0:=w) hF hC hG (fun s1 J1 a1 w1 A' k1 k2 k3 k4 k5=>hQ .normal A' s1 J1 a1 w1 k1 k2 k3 (k4▸hd.step hS k5) (h0.trans k5)) ops.toList _ A s J a w ?_ h hS hA rfl (.refl s J w));apply List.ext_getElem?;intro i;by_cases hi:i<ops.size
   ·simp[hi]
   ·simp[hi]
 | seq x y ihx ihy=>
  intro F hF s0 J0 w0 hro cur K A s J a w Q h hS hA hd h0 hQ;refine wpIn_seq (ihx hF hro cur _ A s J a w _ h hS hA hd h0 ?_);intro ex A' s' J' a' w' hk hS' hA' hd' h0';cases ex with
  | normal=>exact ihy hF hro cur K A' s' J' a' w' Q hk hS' hA' hd' h0' hQ
  | exit id=>exact hQ (.exit id) A' s' J' a' w' hk hS' hA' hd' h0'
  | ret=>exact hQ .ret A' s' J' a' w' hk hS' hA' hd' h0'
 | cond c x y ihx ihy=>
  intro F hF s0 J0 w0 hro cur K A s J a w Q h hS hA hd h0 hQ;simp only[evC,D0l]at h;have hv:=B2j hS hA c hG;split at h
  ·rename_i hc;rw[hc]at hv;exact wpIn_cond_true hv.bool_inv (ihx hF hro cur K A s J a w Q h hS hA hd h0 hQ)
  ·rename_i hc;rw[hc]at hv;exact wpIn_cond_false hv.bool_inv (ihy hF hro cur K A s J a w Q h hS hA hd h0 hQ)
  ·exact h.elim
 | block id c ih=>
  intro F hF s0 J0 w0 hro cur K A s J a w Q h hS hA hd h0 hQ;refine wpIn_block (ih hF hro id _ A s J a w _ h hS hA hd h0 ?_);intro ex A' s' J' a' w' hk hS' hA' hd' h0';cases ex with
  | normal=>exact hQ .normal A' s' J' a' w' hk hS' hA' hd' h0'
  | ret=>exact hQ .ret A' s' J' a' w' hk hS' hA' hd' h0'
  | exit j=>
   simp only[exOf,Exit.inBlock];simp only[A0h]at hk;split at hk
   ·rename_i hj;rw[if_pos (Nat.eq_of_beq_eq_true hj)];exact hQ .normal A' s' J' a' w' hk hS' hA' hd' h0'
   ·rename_i hj;rw[if_neg (Nat.ne_of_beq_eq_false hj)];exact hQ (.exit j) A' s' J' a' w' hk hS' hA' hd' h0'
 | loop c ih=>
  intro F hF s0 J0 w0 hro cur K A s J a w Q h hS hA hd h0 hQ;refine C0b fun I hI=>?_;simp only[evC]at h;refine h (fun l s=>∀J a w,Sim G s J w->VRf H.N s.next J (ofL l) a.tmps->Dfs w0 w a.defers->Step s0 J0 w0 s J w->I a w) ?_ J a w hS (hA.wipe _).list hd h0
  intro A1 s1 h1 J1 a1 w1 hS1 hA1 hd1 h01;refine hI a1 w1 (ih hF hro cur _ (ofL A1) s1 J1 a1 w1 _ h1 hS1 hA1 hd1 h01 ?_);intro ex A' s' J' a' w' hk hS' hA' hd' h0';cases ex with
  | normal=>exact hk J' a' w' hS' (hA'.wipe _).list hd' h0'
  | exit id=>exact hQ (.exit id) _ s' J' a' w' hk hS' (hA'.wipe _).list hd' h0'
  | ret=>exact hQ .ret _ s' J' a' w' hk hS' (hA'.wipe _).list hd' h0'
 | scope c ih=>
  intro F hF s0 J0 w0 hro cur K A s J a w Q h hS hA hd h0 hQ;refine D11 (ih hF hro cur K A s J a w _ h hS hA hd h0 ?_);intro ex A' s' J' a' w' hk hS' hA' hd' h0';exact⟨fun l=>by cases ex<;>simp[exOf],hQ ex A' s' J' a' w' hk hS' hA' hd' h0'⟩
 | rangeFunc g ps aC bd ihA ihB=>
  intro F hF s0 J0 w0 hro cur K A s J a w Q h hS hA hd h0 hQ;refine wpIn_rangeFunc ?_;intro fn hfn;simp only[evC]at h;have hA1:VRf H.N s.next J (ofL (toL H.N (wipe (H.wip (cur+1000000)) A))) a.tmps:=(hA.wipe _).list
  have hLlen:(toL H.N (wipe (H.wip (cur+1000000)) A)).length=a.tmps.size:=by rw[hA.1];simp[toL]
  have hLrel:∀(i:Nat) (x y:Value),(toL H.N (wipe (H.wip (cur+1000000)) A))[i]?=some x->a.tmps[i]?=some y->VR s.next J false x y:=fun i x y hx hy=>by
   have:=hA1.2 i;rw[Array.getD_eq_getD_getElem?,hy]at this;unfold ofL at this;rw[List.getD_eq_getElem?_getD,hx]at this;exact this
  generalize toL H.N (wipe (H.wip (cur+1000000)) A)=L at h hA1 hLlen hLrel;obtain⟨l,mark,w1,J1,hen,hS1,hst1,hcb,hd1⟩:∃(l:Nat) (mark:List Deferred) (w1:World) (J1:Nat->Plc),(Instr.enterLoop fn a.tmps ps aC bd F.round).run P w=.ok (l,mark) w1/\
    Sim G (s.alloc (.loop L ps aC bd .ready none)) J1 w1/\Step s J w (s.alloc (.loop L ps aC bd .ready none)) J1 w1/\(J1 s.next).cb=l/\Dfs w0 w1 (mark++a.defers):=by
   rcases hF with rfl|⟨l0,rfl⟩
   ·have e1:Step s J w s J (w.alloc (.deferred (some []))):=(Step.refl s J w).alloc _;have e2:Sim G s J (w.alloc (.deferred (some []))):=hS.holds (A51 w _);obtain⟨g1,g2⟩:=e2.allocWhole (x:=.loop L ps aC bd .ready none) (o:=.loop { state:=.ready,pending:=none,fn,tmps:=a.tmps,params:=ps,assign:=aC,body:=bd,defers:=w.heap.size })
     ⟨_,rfl,rfl,rfl,rfl,rfl,rfl,hLlen,hLrel⟩
    refine⟨_,_,_,_,run_enterLoop_outer fn a.tmps ps aC bd,g1,e1.trans g2,by simp[putJ],?_⟩
    obtain⟨Ds,h1,h2,h3⟩:=hd.step hS (e1.trans g2);have hold:∀D∈Ds,D<w.heap.size:=fun D hD=>by
     obtain⟨Ds',h1',h2',h3'⟩:=hd;have:Ds'=Ds:=by
      have:=h1'.symm.trans h1;have inj:∀(a b:List Nat),a.map (fun D=>({ target:=.collected D,args:=#[] }:Deferred))=b.map (fun D=>{ target:=.collected D,args:=#[] })->a=b:=by
       intro a;induction a with
       | nil=>intro b hb;cases b<;>simp_all
       | cons x a ih=>intro b hb;cases b with
        | nil=>simp at hb
        | cons y b=>simp at hb;rw[hb.1,ih b (by simpa using hb.2)]
      exact inj _ _ this
     subst this;exact(Array.getElem?_eq_some_iff.1 (h3' D hD).2).1
    refine⟨w.heap.size::Ds,by simp[h1],List.nodup_cons.2 ⟨fun hm=>absurd (hold _ hm) (Nat.lt_irrefl _),h2⟩,fun D hD=>?_⟩
    rcases List.mem_cons.1 hD with rfl|hD
    ·exact⟨h0.size,g2.other _ _ (World.alloc_heap_new w _) (fun _ _ _ h=>by cases h) (B1z e2 (World.alloc_heap_new w _))⟩
    ·exact h3 D hD
   ·obtain⟨r,hr⟩:=hro l0 rfl;obtain⟨r',hr'⟩:=h0.loops l0 r hr;obtain⟨g1,g2⟩:=hS.allocWhole (x:=.loop L ps aC bd .ready none) (o:=.loop { state:=.ready,pending:=none,fn,tmps:=a.tmps,params:=ps,assign:=aC,body:=bd,defers:=r'.defers })
     ⟨_,rfl,rfl,rfl,rfl,rfl,rfl,hLlen,hLrel⟩
    refine⟨w.heap.size,[],_,_,?_,g1,g2,by simp[putJ],hd.step hS g2⟩
    show(Instr.enterLoop fn a.tmps ps aC bd (some l0)).run P w=_;unfold Instr.enterLoop;simp only[Sem.run_bind,run_newObj_alloc,Result.andThen,Sem.run_pure,run_getLoop hr']
  have hcall:=h (fun args Q1 s1 hr=>hC.2.2 _ _ _ _ fun J2 w2 args' hS2 hvs hb2=>by
   obtain⟨hlen,hblk,hX⟩:=hr;obtain⟨r,hc,rfl,rfl,rfl,hst,hpe,hl2,hr2⟩:=hS2.obj _ _ hblk;have hy:=run_yield (P:=P) (args:=args') hc (by rw[<-hvs.1,hlen])
   refine⟨_,_,_,_,hy,roundIn_of_wpIn trivial ?_⟩;have hfr:VRf H.N s1.next J2 (B8j H.N r.params.toList args (ofL L)) ((r.params.zip args').foldl (fun tmps (t,a)=>tmps.setIfInBounds t a) r.tmps):=by
    have h1:VRf H.N s1.next J2 (ofL L) r.tmps:=by
     refine⟨by rw[<-hl2,hLlen,hA.1],fun i=>?_⟩
     unfold ofL;by_cases hi:i<L.length
     ·have hi':i<r.tmps.size:=by omega
      rw[List.getD_eq_getElem?_getD,List.getElem?_eq_getElem hi,Array.getD_eq_getD_getElem?,Array.getElem?_eq_getElem hi'];exact hr2 i _ _ (List.getElem?_eq_getElem hi) (Array.getElem?_eq_getElem hi')
     ·rw[List.getD_eq_getElem?_getD,List.getElem?_eq_none (by omega)]
      exact .dc
    have:=C1w r.params.toList args args'.toList (ofL L) r.tmps h1 (by simpa using hvs.1) (fun i x y hx hy=>hvs.2 i x y hx (by simpa using hy))
    rw[<-Array.foldl_toList,Array.toList_zip];exact this
   have hrl:∀l,(Fence.wide.inRound (J2 s.next).cb).round=some l->∃r:Loop,w2.heap[l]?=some (Obj.loop r):=fun l hl=>by
    cases hl;exact⟨r,hc⟩
   refine ihA (.inr ⟨(J2 s.next).cb,rfl⟩) hrl cur _ _ s1 J2 _ w2 _ hX hS2 hfr ⟨[],rfl,.nil,fun D hD=>by cases hD⟩ (.refl s1 J2 w2) ?_
   intro ex A3 s3 J3 a3 w3 hk hS3 hA3 hd3 hst3;cases ex with
   | exit id=>exact hk.elim
   | ret=>exact hk.elim
   | normal=>
    obtain⟨hblk3,hY⟩:=hk;have hcb3:(J3 s.next).cb=(J2 s.next).cb:=by rw[hst3.ext _ hb2]
    obtain⟨r3,hc3,hp3,ha3,hb3,hst3',hpe3,hl3,hr3⟩:=hS3.obj _ _ hblk3;have hbr:=run_beginRound (P:=P) hc3 hst3';rw[hcb3]at hbr;refine⟨_,hbr,?_⟩;obtain⟨g1,g2⟩:=hS3.putWhole (x2:=.loop L r.params r.assign r.body .busy none) hblk3 rfl rfl (.loop { r3 with state:=.busy }) (fun _ _ _ _ _ _ _=>⟨_,rfl⟩)
     (fun w' hw'=>⟨_,hw',hp3,ha3,hb3,rfl,hpe3,hl3,hr3⟩)
    rw[hcb3]at g1 g2;refine ihB (.inr ⟨(J2 s.next).cb,rfl⟩) hrl cur _ _ _ J3 _ _ _ hY g1 hA3 (hd3.step hS3 g2) (hst3.trans g2) ?_
    intro ex A4 s4 J4 a4 w4 hk hS4 hA4 hd4 hst4;obtain⟨hblk4,hk⟩:=hk;have hcb4:(J4 s.next).cb=(J2 s.next).cb:=by rw[hst4.ext _ hb2]
    obtain⟨r4,hc4,hp4,ha4,hb4,hst4',hpe4,hl4,hr4⟩:=hS4.obj _ _ hblk4;have fin:∀(jump:Option Code) (st:LoopState),(st=if jump.isNone then .ready else .done)->Q1 (.bool jump.isNone) (s4.put s.next (.loop L r.params r.assign r.body st jump))->
      ∃v w',(Instr.endRound (J2 s.next).cb jump).run P w4=.ok v w'/\B59 G s1 J2 w2 Q1 (.returned v) w':=by
     intro jump st hst0 hq;obtain⟨g3,g4⟩:=hS4.putWhole (x2:=.loop L r.params r.assign r.body st jump) hblk4 rfl rfl (.loop { r4 with state:=if jump.isNone then .ready else .done,pending:=jump }) (fun _ _ _ _ _ _ _=>⟨_,rfl⟩)
      (fun w' hw'=>⟨_,hw',hp4,ha4,hb4,hst0.symm,rfl,hl4,hr4⟩)
     have her:=run_endRound (P:=P) jump hc4;rw[hcb4]at her g3 g4;exact⟨_,_,her,_,rfl,_,_,J4,hq,.one (.bool _),g3,hst4.trans g4⟩
    cases ex with
    | normal=>exact fin none .ready rfl hk
    | ret=>exact fin (some .ret) .done rfl hk
    | exit id=>exact fin (some (.exit id)) .done rfl hk)
  clear h;unfold A96 at hcall;split at hcall
  ·rename_i f first captured hg
   obtain⟨hfirst,hb,hcall⟩:=hcall;have hgv:=B2j hS hA g hG;rw[hg]at hgv;obtain⟨fs',cs',e3,hsz,hrel,hfsz,_⟩:=hgv.func_inv;have e4:fs'=#[]:=Array.eq_empty_of_size_eq_zero (by omega)
   subst e4;have hvrs:VRs (s.alloc (.loop L ps aC bd .ready none)).next J1 (.func (.yield s.next) #[] #[]::captured.toList) (#[.func (.yield l) #[] #[]]++cs'):=by
    refine⟨by simp[hsz];omega,fun i x y hx hy=>?_⟩
    cases i with
    | zero=>
     rw[Array.getElem?_append_left (by simp)]at hy
     simp at hx hy;subst hx;subst hy;rw[<-hcb];exact .one (.yield (by simp[St.alloc]))
    | succ i=>
     rw[List.getElem?_cons_succ]at hx;rw[Array.getElem?_append_right (by simp)]at hy
     simp only[List.size_toArray,List.length_cons,List.length_nil,Nat.zero_add,Nat.add_sub_cancel]at hy;exact(VR.one (hrel i x y (by simpa using hx) hy)).mono hst1.le hst1.ext
   have hcl:=hC.1 _ _ _ _ hcall J1 w1 _ hS1 hvrs hb;refine⟨l,mark,w1,{ target:=.fn (.func f) cs',args:=#[.func (.yield l) #[] #[]] },w1,f,#[.func (.yield l) #[] #[]]++cs',w1,hen,?_,?_,?_,hF.depth,?_⟩
   ·have ec:a.eval (Operand.const (.func (.yield l) #[] #[]))=.func (.yield l) #[] #[]:=rfl;simp[resolve,rangeCall,e3,Deferred.ofValue,ec]
   ·intro f' _;exact hF.fn f'
   ·simp only[invoke,A9h hb]
   ·have hcl2:=hF.calls hcl;clear hcl;refine CallsIn.mono hcl2 ?_;rintro e w4 ⟨v',rfl,v,s4,J4,hk,hv,hS4,hst4⟩;unfold rfK at hk;split at hk
    ·rename_i L4 ps4 as4 bd4 st4 pe4 hblk;obtain⟨hnb,hk⟩:=hk;have hcb4:(J4 s.next).cb=l:=by rw[hst4.ext _ (by simp[St.alloc]),hcb]
     obtain⟨r4,hc4,hp4,ha4,hb4,hst4',hpe4,hl4,hr4⟩:=hS4.obj _ _ hblk;have hel:=run_endLoop (P:=P) hc4 (by rw[hst4'];exact hnb)
     obtain⟨g3,g4⟩:=hS4.putWhole (x2:=.loop L4 ps4 as4 bd4 .exhausted pe4) hblk rfl rfl (.loop { r4 with state:=.exhausted }) (fun _ _ _ _ _ _ _=>⟨_,rfl⟩)
      (fun w' hw'=>⟨_,hw',hp4,ha4,hb4,rfl,hpe4,hl4,hr4⟩)
     rw[hcb4]at hel g3 g4;obtain⟨w5,hw5⟩:∃w5,World.putObj' w4 l (.loop { r4 with state:=.exhausted })=w5:=⟨_,rfl⟩;have hel:(Instr.endLoop l).run P w4=.ok pe4 w5:=by rw[<-hw5,<-hpe4];exact hel
     rw[hw5]at g3 g4;have hst5:=(hst1.trans hst4).trans g4;have hA5:VRf H.N (s4.put s.next (.loop L4 ps4 as4 bd4 .exhausted pe4)).next J4 (ofL L) a.tmps:=hA1.mono hst5.le hst5.ext
     have hd5:=(hd1.step hS1 hst4).step hS4 g4;refine⟨_,_,hel,?_⟩;split at hk
     ·exact hQ .normal _ _ J4 { a with defers:=mark++a.defers } _ hk g3 hA5 hd5 (h0.trans hst5)
     ·exact wpIn_ret (hQ .ret _ _ J4 { a with defers:=mark++a.defers } _ hk g3 hA5 hd5 (h0.trans hst5))
     ·exact wpIn_exit (hQ (.exit _) _ _ J4 { a with defers:=mark++a.defers } _ hk g3 hA5 hd5 (h0.trans hst5))
     ·exact hk.elim
    ·exact hk.elim
  ·exact hcall.elim
 | _=>intro F hF s0 J0 w0 hro cur K A s J a w Q h;exact h.elim
end Go.Zz
namespace Go.Zz
open Go
variable {P : Program} {G : Nat} {wips : FuncId → Hint} {laid : Laid}
theorem A50{X:Shut P wips laid}{f:FuncId}(hl:laid f=none){args:List Value}{Q:Post}{s:St}(h:B6f P (calls X) wips f args Q s):calls X f args Q s:=by
 refine X.step f args Q s ?_;simp only[F42,hl];exact h
theorem A6p{X:Shut P wips laid}{f:FuncId}{args:List Value}{Q Q':Post}{s:St}(h:calls X f args Q s)(hQ:∀v s,Q v s->Q' v s):calls X f args Q' s:=X.mono f args s Q Q' hQ h
theorem B6s{t:TypeId}{p v:Value}{w w':World}(h:(Instr.loadAt t p).run P w=.ok v w'):(do loadVar t (<-asAddr p):Sem Value).run P w=.ok v w':=by
 cases p with
 | pointer a=>
  cases a with
  | none=>simp[Instr.loadAt,Instr.sureAddr]at h
  | some a=>simpa[Instr.loadAt,Instr.sureAddr,asAddr]using h
 | _=>simp[Instr.loadAt,Instr.sureAddr]at h
def resF(t:Array Value):ResultVar->Sem Value
 | .tmp i=>pure (t.getD i undef)
 | .cell a ty=>do loadVar ty (<-asAddr (t.getD a undef))
theorem B7n{x:Option Value}{r:Option (List Value)}{l:List Value}(h:A03 x r=some l):∃v vs,x=some v/\r=some vs/\l=v::vs:=by
 cases x<;>cases r<;>simp[A03]at h;exact⟨_,_,rfl,rfl,h.symm⟩
theorem E21{N:Nat}{s:St}{J:Nat->Plc}{w:World}(hS:Sim G s J w){A:Fr}{t:Array Value}(hA:VRf N s.next J A t):∀(l:List ResultVar) (vs:List Value),resL P A s l=some vs->
  ∃vs':List Value,vs.length=vs'.length/\(∀(i:Nat) (x y:Value),vs[i]?=some x->vs'[i]?=some y->VR s.next J false x y)/\
   (l.mapM (resF t)).run P w=.ok vs' w:=by
 intro l;induction l with
 | nil=>intro vs h;cases h;exact⟨[],rfl,fun i x y hx=>by simp at hx,by simp⟩
 | cons r l ih=>
  intro vs h;cases r with
  | tmp i=>
   simp only[resL]at h;obtain⟨v1,vs1,e1,h1,rfl⟩:=B7n h;cases e1;obtain⟨vs',h2,h3,h4⟩:=ih vs1 h1;refine⟨t.getD i undef::vs',by simp[h2],fun j x y hx hy=>?_,by rw[List.mapM_cons];simp[resF,h4]⟩
   cases j with
   | zero=>simp at hx hy;rw[<-hx,<-hy];simpa using hA.2 i
   | succ j=>exact h3 j x y (by simpa using hx) (by simpa using hy)
  | cell a ty=>
   simp only[resL]at h;obtain⟨v,vs1,hv,h1,rfl⟩:=B7n h;obtain⟨vs',h2,h3,h4⟩:=ih vs1 h1;obtain⟨v',hr,hrun⟩:=C2i hS hv (hA.2 a);have hrun:=B6s (hrun w (.refl w));refine⟨v'::vs',by simp[h2],fun j x y hx hy=>?_,by
    rw[List.mapM_cons];have e:(resF t (.cell a ty)).run P w=.ok v' w:=hrun;simp[e,h4]⟩
   cases j with
   | zero=>simp at hx hy;rw[<-hx,<-hy];exact hr
   | succ j=>exact h3 j x y (by simpa using hx) (by simpa using hy)
theorem E10{N:Nat}{s:St}{J:Nat->Plc}{w:World}(hS:Sim G s J w){A:Fr}{t:Array Value}(hA:VRf N s.next J A t){fn:Func}{v:Value}(h:resV P fn A s=some v) :
  ∃v',VR s.next J false v v'/\(results fn t).run P w=.ok v' w:=by
 unfold resV retV at h;have run:∀{vs:List Value},resL P A s fn.results.toList=some vs->∃vs':List Value,vs.length=vs'.length/\(∀(i:Nat) (x y:Value),vs[i]?=some x->vs'[i]?=some y->VR s.next J false x y)/\
   (results fn t).run P w=.ok (if h:vs'.toArray.size=1 then vs'.toArray[0]else .tuple vs'.toArray) w:=by
  intro vs hvs;obtain⟨vs',h1,h2,h3⟩:=E21 hS hA _ _ hvs;refine⟨vs',h1,h2,?_⟩;have e:results fn t=(do let vs <-fn.results.mapM (resF t);pure (if h:vs.size=1 then vs[0]else .tuple vs)):=by
   unfold results;congr 1
  rw[e,Array.mapM_eq_mapM_toList];simp[h3]
 split at h
 ·rename_i x hx;cases h;obtain⟨vs',h1,h2,h3⟩:=run hx
  match vs',h1 with
  | [y],_=>exact⟨y,h2 0 v y rfl rfl,by simpa using h3⟩
 ·rename_i vs hne hvs;cases h;obtain⟨vs',h1,h2,h3⟩:=run hvs;have hn:vs'.length≠1:=fun h=>by
   rw[h]at h1
   match vs,h1 with
   | [x],_=>exact hne x rfl
  refine⟨.tuple vs'.toArray,.tuple (by simpa using h1) (fun i x y hx hy=>h2 i x y (by simpa using hx) (by simpa using hy)),?_⟩
  rw[h3];simp[hn]
 ·cases h
def semC(P:Program)(G:Nat):A33:=fun f args Q s=>if f<tok0 then
  ∀(J:Nat->Plc) (w:World) (args':Array Value),Sim G s J w->VRs s.next J args args'->A3s P f=true->CallsIn Fence.wide 0 P f args' w (B59 G s J w Q)
 else ∀(J:Nat->Plc) (w:World) (args':Array Value),Sim G s J w->VRs s.next J args args'->f-tok0<s.next->YieldAt Fence.wide 0 P (J (f-tok0)).cb args' w (B59 G s J w Q)
theorem C96{f:FuncId}(h:A3s P f=true):f<tok0:=by
 unfold A3s at h;split at h
 ·simp only[Bool.and_eq_true]at h;exact Nat.lt_of_succ_le (Nat.le_of_ble_eq_true h.2)
 ·cases h
theorem D8p(b:Nat):¬tok b<tok0:=Nat.not_lt.2 (Nat.le_add_right tok0 b)
theorem D23(b:Nat):tok b-tok0=b:=Nat.add_sub_cancel_left (n:=tok0) (m:=b)
theorem B66:B9s P G (semC P G):=by
 refine⟨fun f args Q s h J w args' hS hv hb=>?_,fun b args Q s h J w args' hS hv hb=>?_,fun b args Q s h=>?_⟩
 ·unfold semC at h;rw[if_pos (C96 hb)]at h;exact h J w args' hS hv hb
 ·unfold semC at h;rw[if_neg (D8p b)]at h;rw[D23 b]at h;exact h J w args' hS hv hb
 ·unfold semC;rw[if_neg (D8p b)];rw[D23 b];exact h
theorem D5s:G3j (semC P G):=by
 intro f args s Q Q' hQ h;have hR:∀{J:Nat->Plc} {w:World} {e:Ending} {w':World},B59 G s J w Q e w'->B59 G s J w Q' e w':=by
  rintro J w e w' ⟨v',rfl,v,s1,J1,hq,rest⟩;exact⟨v',rfl,v,s1,J1,hQ _ _ hq,rest⟩
 unfold semC at *;split at h
 ·rename_i hf;rw[if_pos hf];exact fun J w args' hS hv hb=>(h J w args' hS hv hb).mono fun e w'=>hR
 ·rename_i hf;rw[if_neg hf];intro J w args' hS hv hb;obtain⟨fn,tmps,aC,bd,h1,h2⟩:=h J w args' hS hv hb;exact⟨fn,tmps,aC,bd,h1,h2.mono fun e w'=>hR⟩
theorem C5f{s0 s:St}{J0 J:Nat->Plc}{w0 w:World}(hS:Sim G s J w)(h0:Step s0 J0 w0 s J w){D:Nat}{x:Option (List Deferred)}(hD:w0.heap.size<=D)(h:w.heap[D]?=some (.deferred x))(o:Obj) :
  Sim G s J (w.putObj D o)/\Step s0 J0 w0 s J (w.putObj D o):=by
 have hoth:∀k,k≠D->(w.putObj D o).heap[k]?=w.heap[k]?:=fun k hk=>World.putObj_heap_other hk;have hne:∀b y,s.heap b=some y->(J b).cb≠D:=fun b y hy he=>by
  have hR:=hS.obj b y hy;cases y with
  | cells vs t=>obtain⟨_,_,c,e,f,hc,_⟩:=hR;rw[he,h]at hc;cases hc
  | map es=>obtain⟨es',hc,_⟩:=hR;rw[he,h]at hc;cases hc
  | iter=>obtain⟨_,r',hc,_⟩:=hR;rw[he,h]at hc;cases hc
  | loop=>obtain⟨L,hc,_⟩:=hR;rw[he,h]at hc;cases hc
 refine⟨⟨hS.live,fun b y hy=>(hS.obj b y hy).mono (Nat.le_refl _) (fun _ _=>rfl) (hoth _ (hne b y hy)),hS.apart,hS.glob⟩,
  ⟨h0.le,h0.ext,by simpa using h0.size,h0.os,h0.out,h0.tape,h0.free,fun cb c e f hc=>?_,fun cb y hy hn hf=>?_,fun cb r hr=>?_⟩⟩
 ·have hlt:=(Array.getElem?_eq_some_iff.1 hc).1;obtain⟨c',h1,h2⟩:=h0.row cb c e f hc;exact⟨c',(hoth cb (by omega)).trans h1,h2⟩
 ·have hlt:=(Array.getElem?_eq_some_iff.1 hy).1;exact(hoth cb (by omega)).trans (h0.other cb y hy hn hf)
 ·have hlt:=(Array.getElem?_eq_some_iff.1 hr).1;obtain⟨r',h1⟩:=h0.loops cb r hr;exact⟨r',(hoth cb (by omega)).trans h1⟩
theorem B3h{fn:Func}{tmps:Array Value}{R:Ending->World->Prop}{s0 s:St}{J0 J:Nat->Plc}{w0:World}:∀(Ds:List Nat) (w:World),Ds.Nodup->(∀D∈Ds,w0.heap.size<=D/\w.heap[D]?=some (.deferred (some [])))->
  Sim G s J w->Step s0 J0 w0 s J w->(∀w,Sim G s J w->Step s0 J0 w0 s J w->∃v,(results fn tmps).run P w=.ok v w/\R (.returned v) w)->
  LeavesInM Fence.wide 0 P fn tmps R (Ds.map fun D=>{ target:=.collected D,args:=#[] }) .returning w
 | [],w,_,_,hS,h0,hR=>hR w hS h0
 | D::Ds,w,hn,hD,hS,h0,hR=>by
  obtain⟨h1,h2⟩:=hD D (List.mem_cons_self ..);obtain⟨g1,g2⟩:=C5f hS h0 h1 h2 (.deferred none);refine⟨by simp,.inl ⟨D,_,rfl,run_takeDeferred h2,B3h Ds _ (List.nodup_cons.1 hn).2 (fun E hE=>?_) g1 g2 hR⟩⟩
  obtain⟨k1,k2⟩:=hD E (List.mem_cons_of_mem _ hE);have hne:E≠D:=fun e=>(List.nodup_cons.1 hn).1 (e▸hE);exact⟨k1,(World.putObj_heap_other hne).trans k2⟩
def F5e(P:Program)(wips:FuncId->Hint)(laid:Laid)(G:Nat)(hG:1000<=G)(hm:P.follows .mixedOrders=true)(hsz:P.funcs.size<=tok0)(hlt:∀f X,laid f=some X->f<tok0)
  (hl:∀f X,laid f=some X->∀args Q s,X args Q s->∀(J:Nat->Plc) (w:World) (args':Array Value),Sim G s J w->VRs s.next J args args'->A3s P f=true->CallsIn Fence.wide 0 P f args' w (B59 G s J w Q)) :
  Shut P wips laid where
 C:=semC P G
 mono:=D5s
 step:=by
  intro f args Q s h;simp only[F42]at h;split at h
  ·rename_i X hX;unfold semC;rw[if_pos (hlt f X hX)];exact fun J w args' hS hA hb=>hl f X hX args Q s h J w args' hS hA hb
  ·unfold B6f at h;split at h<;>(try exact h.elim)
   rename_i fn hf;split at h<;>(try exact h.elim)
   rename_i c hc hN;have hflt:f<tok0:=Nat.lt_of_lt_of_le (Array.getElem?_eq_some_iff.1 hf).1 hsz;unfold semC;rw[if_pos hflt];intro J w args' hS hA hb;refine callsIn_of_wp_marks hf hc trivial ?_;refine E1w B66 hG hm c (.inl rfl) (s0:=s) (J0:=J) (w0:=w) (fun l hl=>by cases hl) 0 _ _ s J _ w _ h hS ?_ ⟨[],rfl,.nil,fun D hD=>by cases hD⟩ (.refl _ _ _) ?_
   ·have hN:=Nat.eq_of_beq_eq_true hN;refine⟨by simp[<-hA.1,hN],fun i=>?_⟩
    by_cases hi:i<args.length
    ·have hi':i<args'.size:=by rw[<-hA.1];exact hi
     have h1:(args'++Array.replicate (fn.ntmps-args'.size) undef).getD i undef=args'[i]:=by
      rw[Array.getD_eq_getD_getElem?,Array.getElem?_append_left hi',Array.getElem?_eq_getElem hi'];rfl
     show VR _ _ _ _ ((args'++Array.replicate (fn.ntmps-args'.size) undef).getD i undef);rw[h1];unfold ofL;rw[List.getD_eq_getElem?_getD,List.getElem?_eq_getElem hi];exact hA.2 i _ _ (List.getElem?_eq_getElem hi) (Array.getElem?_eq_getElem hi')
    ·unfold ofL;rw[List.getD_eq_getElem?_getD,List.getElem?_eq_none (by omega)]
     exact .dc
   ·intro ex A' s' J' a' w' hk hS' hA' hd' h0';have key:kEnd Q s (resV P fn A' s') s'->LeavesInM Fence.wide 0 P fn a'.tmps (B59 G s J w Q) a'.defers .returning w':=by
     intro hk;unfold kEnd at hk;split at hk<;>(try exact hk.elim)
     rename_i v hv;obtain⟨Ds,e1,e2,e3⟩:=hd';rw[e1];refine B3h Ds w' e2 e3 hS' h0' fun w2 hS2 h2=>?_;obtain⟨v',g1,g2⟩:=E10 hS2 hA' hv;refine⟨v',g2,v',rfl,v,?_⟩;rcases hk with hk|⟨hsame,hbel,hk⟩
     ·exact⟨s',J',hk,g1,hS2,h2⟩
     ·obtain⟨f1,f2⟩:=hS.forget hS2 h2 hsame;exact⟨s,J',hk,g1.down (fun _ _=>rfl) hbel,f1,f2⟩
    cases ex with
    | normal=>exact key hk
    | ret=>exact key hk
    | exit id=>exact hk.elim
end Go.Zz
