import Derived.Test.YtnghaapdoanabaaGreatDoorC
import Derived.OrdersIn
import Derived.Test.YtnghaapdoanabaaGreatDoorJ
import Derived.RangeFuncCalls
import Derived.RangeFuncSeq
import Derived.Laws.Externs
import Derived.KernelRfl
set_option linter.all false
namespace Go.Zz
open Go
def C7s(acc:List Nat)(o:Oper):Nat:=
 o.after.toList.foldl (fun m e=>if Region.binds .any e then m |||(1<<<e.on) ||| acc.getD e.on 0 else m) 0
def B06(bef:List Nat)(i j:Nat):Bool:=(bef.getD i 0).testBit j
def B3w(p:Nat->Bool):Nat->Option Nat
 | 0=>none
 | n+1=>if p n then some n else B3w p n
def G9y(o:Oper):List Tmp:=o.op.operands.toList.filterMap fun|.tmp t=>some t|_=>none
def B3p(L:List Oper)(i:Nat):List Tmp:=match L[i]? with
 | some o=>G9y o
 | none=>[]
def A34(L:List Oper)(i:Nat):Option Tmp:=(L[i]?).bind (·.dst)
def F6x(L:List Oper)(i d:Nat):Option Nat:=B3w (fun j=>A34 L j==some d) i
inductive Kind where
 | p   -- its value hangs on its operands alone
 | r   -- it reads the memory
 | a   -- it makes a block,whenever
 | e
 deriving DecidableEq
def srcs(L:List Oper)(i:Nat):List Nat:=(B3p L i).filterMap (F6x L i)++(match L[i]? with
 | some o=>(match o.guard with|some (j,_)=>[j]|none=>[])
 | none=>[])
structure Plan where
 bef:List Nat
 es:List Nat
 hi:List Nat
 av:List Nat
 late:List Nat
 ear:List Nat
def A8l(p:Plan)(i:Nat)(o:Oper):Kind:=match inL i p.es with
 | true=>.e
 | false=>match inL i p.late with
  | true=>.a
  | false=>match cls o.op with
   | .p=>.p
   | .r=>.r
   | _=>.e
def isK(k:Kind)(p:Plan)(L:List Oper)(i:Nat):Bool:=match L[i]? with
 | some o=>A8l p i o==k
 | none=>false
structure Hint where
 N:Nat
 wip:Nat->List Nat
 plan:Nat->Plan
def ok1(L:List Oper)(p:Plan):Bool:=
 ((List.range L.length).all fun i=>match L[i]? with
  | some o=>Nat.beq (p.bef.getD i 0) (C7s p.bef o)&&o.after.toList.all fun e=>!Region.binds .any e||Nat.blt e.on i
  | none=>true) &&
 ((List.range p.es.length).all fun l=>(List.range l).all fun k=>B06 p.bef (p.es.getD l 0) (p.es.getD k 0))
def ok2(L:List Oper)(p:Plan):Bool:=
 (List.range L.length).all fun y=>(List.range y).all fun x=>B06 p.bef y x ||
  (match A34 L x with
   | some d=>!(B3p L y).contains d&&!(A34 L y==some d)
   | none=>true) &&
  (match A34 L y with
   | some d=>!(B3p L x).contains d
   | none=>true)
def ok3(L:List Oper)(p:Plan):Bool:=
 (List.range L.length).all fun i=>match L[i]? with
  | some o=>(match o.guard with
   | none=>true
   | some (j,_)=>decide (j<i)&&B06 p.bef i j&&!isK .a p L i&&!isK .a p L j&&(match A34 L j with
    | some d=>(List.range L.length).all fun k=>k==j||!(A34 L k==some d)
    | none=>false))
  | none=>true
def ok4(L:List Oper)(p:Plan):Bool:=
 let m:=p.es.length
 (List.range L.length).all fun i=>isK .e p L i ||
  (decide (p.av.getD i 0<=m)&&decide (p.hi.getD i 0<=m) &&
   (p.hi.getD i 0==m||B06 p.bef (p.es.getD (p.hi.getD i 0) 0) i) &&
   (if isK .a p L i then p.av.getD i 0==p.hi.getD i 0 else
   ((List.range (p.av.getD i 0)).all fun k=>B06 p.bef i (p.es.getD k 0)) &&
   ((srcs L i).all fun j=>if isK .e p L j then(p.es.take (p.av.getD i 0)).contains j else !isK .a p L j&&decide (p.av.getD j 0<=p.av.getD i 0))))
def ok5(L:List Oper)(p:Plan):Bool:=
 (List.range p.es.length).all fun k=>(srcs L (p.es.getD k 0)).all fun j=>if isK .e p L j then(p.es.take k).contains j else decide (p.av.getD j 0<=k)
def ok6(L:List Oper)(n:Nat):Bool:=L.all fun o=>match o.dst with
 | some d=>Nat.blt d n
 | none=>true
def ok7(L:List Oper)(p:Plan):Bool:=(List.range L.length).all fun i=>match L[i]? with
 | some o=>!isK .a p L i||((match cls o.op with|.a=>true|_=>false)&&decide (p.ear.getD i 0<=p.es.length)&&((List.range (p.ear.getD i 0)).all fun k=>B06 p.bef i (p.es.getD k 0)) &&
  (srcs L i).all fun j=>if isK .e p L j then(p.es.take (p.ear.getD i 0)).contains j else !isK .a p L j&&decide (p.av.getD j 0<=p.ear.getD i 0))
 | none=>true
def D56(L:List Oper)(p:Plan)(n:Nat):Bool:=
 p.es==(List.range L.length).filter (isK .e p L)&&ok1 L p&&ok2 L p&&ok3 L p&&ok4 L p&&ok5 L p&&ok6 L n
def opdD(L:List Oper)(vals:Nat->Value)(A:Fr)(i:Nat):Operand->Value
 | .tmp d=>if(B3p L i).contains d then(match F6x L i d with
  | some j=>vals j
  | none=>A d)else undef
 | x=>opd A x
def A2t(vals:Nat->Value)(g:Option (Nat×Bool)):Option Bool:=match g with
 | none=>some true
 | some (j,want)=>A1j want (vals j)
def valD(P:Program)(o:Oper)(ρ:Operand->Value)(s:St):Option Value:=match cls o.op with
 | .p=>D5h P o.op ρ
 | .r=>C9q P o.op ρ s
 | _=>none
def C95(P:Program)(L:List Oper)(A:Fr)(K:Prop)(vals:Nat->Value)(s:St):List Nat->Prop
 | []=>K
 | i::r=>match L[i]? with
  | some o=>chkW (A2t vals o.guard) (C9q P o.op (opdD L vals A i) s=some (vals i)) (C95 P L A K vals s r)
  | none=>False
def B6j(P:Program)(L:List Oper)(A:Fr)(K:(Nat->Value)->Prop)(s:St):List Nat->(Nat->Value)->Prop
 | [],vals=>K vals
 | i::r,vals=>match L[i]? with
  | some o=>match mvOf o.guard o.op with
   | some x=>B6j P L A K s r (setV vals i (opdD L vals A i x))
   | none=>optW (gO (A2t vals o.guard) (valD P o (opdD L vals A i) s)) (fun v=>B6j P L A K s r (setV vals i v))
  | none=>False
theorem D1s{P:Program}{L:List Oper}{A:Fr}{K:(Nat->Value)->Prop}{s:St}{i:Nat}{r:List Nat}{vals:Nat->Value}:B6j P L A K s (i::r) vals=match L[i]? with
  | some o=>optW (gO (A2t vals o.guard) (valD P o (opdD L vals A i) s)) (fun v=>B6j P L A K s r (setV vals i v))
  | none=>False:=by
 rw[B6j];cases L[i]? with
 | none=>rfl
 | some o=>
  simp only;cases hm:mvOf o.guard o.op with
  | none=>rfl
  | some x=>
   cases hg:o.guard with
   | some g=>simp[mvOf,hg]at hm
   | none=>cases ho:o.op<;>simp[mvOf,hg,ho]at hm<;>subst hm<;>simp[A2t,gO,optW,valD,cls,D5h,ho]
def mkW(o:Option (AObj×NewV))(q:Prop):Prop:=match o with
 | some _=>q
 | none=>False
def mksD(P:Program)(L:List Oper)(A:Fr)(K:Prop)(vals:Nat->Value):List Nat->Prop
 | []=>K
 | i::r=>match L[i]? with
  | some o=>mkW (newA P o.op (opdD L vals A i)) (mksD P L A K vals r)
  | none=>False
def alsD(P:Program)(L:List Oper)(A:Fr)(K:(Nat->Value)->St->Prop):List Nat->(Nat->Value)->St->Prop
 | [],vals,s=>K vals s
 | i::r,vals,s=>match L[i]? with
  | some o=>newW (newA P o.op (opdD L vals A i)) (fun v s'=>alsD P L A K r (setV vals i v) s') s
  | none=>False
def B4t(L:List Oper)(p:Plan)(g:Nat):List Nat:=(List.range L.length).filter fun i=>(isK .p p L i||isK .r p L i)&&p.av.getD i 0==g
def A7s(L:List Oper)(p:Plan)(g:Nat):List Nat:=(List.range L.length).filter fun i=>isK .a p L i&&p.av.getD i 0==g
def C6b(L:List Oper)(p:Plan)(g:Nat):List Nat:=(List.range L.length).filter fun i=>isK .a p L i&&p.ear.getD i 0==g
def B52(L:List Oper)(p:Plan)(g:Nat):List Nat:=(List.range L.length).filter fun i=>isK .r p L i&&decide (p.av.getD i 0<g)&&decide (g<=p.hi.getD i 0)
def B78(P:Program)(C:A33)(L:List Oper)(p:Plan)(A:Fr)(K:(Nat->Value)->St->Prop):List Nat->Nat->(Nat->Value)->St->Prop
 | [],g,vals,s=>C95 P L A (B6j P L A (fun vals=>mksD P L A (alsD P L A K (A7s L p g) vals s) vals (C6b L p g)) s (B4t L p g) vals) vals s (B52 L p g)
 | e::es,g,vals,s=>C95 P L A (B6j P L A (fun vals=>mksD P L A (alsD P L A (fun vals s=>match L[e]? with
   | some o=>D4v o.guard (A2t vals o.guard) (opW P C o.op (opdD L vals A e)) (fun v s'=>B78 P C L p A K es (g+1) (setV vals e v) s') s
   | none=>False) (A7s L p g) vals s) vals (C6b L p g)) s (B4t L p g) vals) vals s (B52 L p g)
def finD(N:Nat)(L:List Oper)(vals:Nat->Value)(A:Fr):Nat->Fr
 | 0=>A
 | i+1=>putA N (finD N L vals A i) (A34 L i) (vals i)
def D3u(P:Program)(C:A33)(N:Nat)(p:Plan)(L:List Oper)(K:Fr->St->Prop)(A:Fr)(s:St):Prop:=match D56 L p N&&ok7 L p with
 | true=>B78 P C L p A (fun vals s'=>K (finD N L vals A L.length) s') p.es 0 (fun _=>undef) s
 | false=>False
def kSeq(k:Fr->St->Prop)(K:A0l):A0l:=(fun _=>fun ex A s=>match ex with
 | .normal=>k A s
 | .exit j=>K (.exit j) A s
 | .ret=>K .ret A s) B2x
def A0h(id:Nat)(K:A0l):A0l:=(fun _=>fun ex A s=>match ex with
 | .exit j=>match Nat.beq j id with
  | true=>K .normal A s
  | false=>K (.exit j) A s
 | .normal=>K .normal A s
 | .ret=>K .ret A s) B2x
def A5n(H:Hint)(cur:Nat)(I:List Value->St->Prop)(K:A0l):A0l:=(fun _=>fun ex A s=>match ex with
 | .normal=>I (toL H.N (wipe (H.wip cur) A)) s
 | .exit j=>K (.exit j) (ofL (toL H.N (wipe (H.wip cur) A))) s
 | .ret=>K .ret (ofL (toL H.N (wipe (H.wip cur) A))) s) B2x
def D0l(v:Value)(x y:Prop):Prop:=match v with
 | .bool true=>x
 | .bool false=>y
 | _=>False
def B8j(N:Nat):List Tmp->List Value->Fr->Fr
 | t::ts,v::vs,A=>B8j N ts vs (putA N A (some t) v)
 | _,_,A=>A
def rfB(b:Nat)(L:List Value)(ps:Array Tmp)(aC bd:Code)(Q:Post):A0l:=(fun _=>fun ex _ s=>s.heap b=some (.loop L ps aC bd .busy none)/\match ex with
 | .normal=>Q (.bool true) (s.put b (.loop L ps aC bd .ready none))
 | .ret=>Q (.bool false) (s.put b (.loop L ps aC bd .done (some .ret)))
 | .exit id=>Q (.bool false) (s.put b (.loop L ps aC bd .done (some (.exit id))))) B2x
def rfA(b:Nat)(L:List Value)(ps:Array Tmp)(aC bd:Code)(Y:A0l->Fr->St->Prop)(Q:Post):A0l:=(fun _=>fun ex A s=>match ex with
 | .normal=>s.heap b=some (.loop L ps aC bd .ready none)/\Y (rfB b L ps aC bd Q) A (s.put b (.loop L ps aC bd .busy none))
 | _=>False) B2x
def E9o(N b:Nat)(L:List Value)(ps:Array Tmp)(aC bd:Code)(X Y:A0l->Fr->St->Prop)(args:List Value)(Q:Post)(s:St):Prop:=
 args.length=ps.size/\s.heap b=some (.loop L ps aC bd .ready none)/\X (rfA b L ps aC bd Y Q) (B8j N ps.toList args (ofL L)) s
def rfK(b:Nat)(K:A0l)(A:Fr)(s:St):Prop:=match s.heap b with
 | some (.loop L ps aC bd st pe)=>st≠.busy/\match pe with
  | none=>K .normal A (s.put b (.loop L ps aC bd .exhausted none))
  | some .ret=>K .ret A (s.put b (.loop L ps aC bd .exhausted (some .ret)))
  | some (.exit id)=>K (.exit id) A (s.put b (.loop L ps aC bd .exhausted (some (.exit id))))
  | _=>False
 | _=>False
def A96(P:Program)(C:A33)(g:Value)(b:Nat)(k:Post)(s:St):Prop:=match g with
 | .func (.func f) first captured=>first.size=0/\A3s P f=true/\C f (.func (.yield b) #[] #[]::captured.toList) k s
 | _=>False
def rfW(P:Program)(C:A33)(N:Nat)(L:List Value)(ps:Array Tmp)(aC bd:Code)(X Y:A0l->Fr->St->Prop)(K:A0l)(g:Value)(s:St):Prop:=
 (∀args Q s',E9o N s.next L ps aC bd X Y args Q s'->C (tok s.next) args Q s')->A96 P C g s.next (fun _ s'=>rfK s.next K (ofL L) s') (s.alloc (.loop L ps aC bd .ready none))
def evC(P:Program)(C:A33)(H:Hint):Code->Nat->A0l->Fr->St->Prop
 | .skip,_,K,A,s=>K .normal A s
 | .label _,_,K,A,s=>K .normal A s
 | .region _ ops false,_,K,A,s=>B2x P C H.N ops (K .normal) ops.toList A s
 | .region id ops true,_,K,A,s=>D3u P C H.N (H.plan id) ops.toList (K .normal) A s
 | .seq a b,cur,K,A,s=>evC P C H a cur (kSeq (evC P C H b cur K) K) A s
 | .cond c a b,cur,K,A,s=>D0l (opd A c) (evC P C H a cur K A s) (evC P C H b cur K A s)
 | .block id c,_,K,A,s=>evC P C H c id (A0h id K) A s
 | .loop c,cur,K,A,s=>∀I:List Value->St->Prop,(∀l s,evC P C H c cur (A5n H cur I K) (ofL l) s->I l s)->I (toL H.N (wipe (H.wip cur) A)) s
 | .exit id,_,K,A,s=>K (.exit id) A s
 | .ret,_,K,A,s=>K .ret A s
 | .scope c,cur,K,A,s=>evC P C H c cur K A s
 | .rangeFunc g ps aC bd,cur,K,A,s=>rfW P C H.N (toL H.N (wipe (H.wip (cur+1000000)) A)) ps aC bd (evC P C H aC cur) (evC P C H bd cur) K (opd A g) s
 | _,_,_,_,_=>False
def A03(x:Option Value)(r:Option (List Value)):Option (List Value):=match x,r with
 | some v,some l=>some (v::l)
 | _,_=>none
def retV(l:Option (List Value)):Option Value:=match l with
 | some [v]=>some v
 | some vs=>some (.tuple vs.toArray)
 | none=>none
def resL(P:Program)(A:Fr)(s:St):List ResultVar->Option (List Value)
 | []=>some []
 | .tmp t::r=>A03 (some (A t)) (resL P A s r)
 | .cell a t::r=>A03 (A04 (tAgg P t) (A a) s) (resL P A s r)
def resV(P:Program)(fn:Func)(A:Fr)(s:St):Option Value:=retV (resL P A s fn.results.toList)
def kEnd(Q:Post)(s:St)(v:Option Value)(s':St):Prop:=match v with
 | some v=>Q v s'\/((∀b,b<s.next->s'.heap b=s.heap b)/\Bel s.next v/\Q v s)
 | none=>False
def G6i(P:Program)(fn:Func)(Q:Post)(s:St):A0l:=(fun _=>fun ex A s'=>match ex with
 | .normal=>kEnd Q s (resV P fn A s') s'
 | .ret=>kEnd Q s (resV P fn A s') s'
 | .exit _=>False) B2x
def B6f(P:Program)(C:A33)(wips:FuncId->Hint)(f:FuncId)(args:List Value)(Q:Post)(s:St):Prop:=match P.funcs[f]? with
 | some fn=>match fn.body,Nat.beq (wips f).N (args.length+(fn.ntmps-args.length))with
  | some c,true=>evC P C (wips f) c 0 (G6i P fn Q s) (ofL args) s
  | _,_=>False
 | none=>False
abbrev Laid:=FuncId->Option (List Value->Post->St->Prop)
def G3j(C:A33):Prop:=∀f args s (Q Q':Post),(∀v s,Q v s->Q' v s)->C f args Q s->C f args Q' s
def F42(P:Program)(wips:FuncId->Hint)(laid:Laid)(C:A33):A33:=fun f args Q s=>match laid f with
 | some X=>X args Q s
 | none=>B6f P C wips f args Q s
structure Shut(P:Program)(wips:FuncId->Hint)(laid:Laid) where
 C:A33
 mono:G3j C
 step:∀f args Q s,F42 P wips laid C f args Q s->C f args Q s
def calls{P:Program}{wips:FuncId->Hint}{laid:Laid}(X:Shut P wips laid):A33:=X.C
def fv(g:FuncId):Value:=.func (.func g) #[] #[]
noncomputable def cF(P:Program)(f:FuncId):Code:=((P.funcs[f]?).bind (·.body)).getD .skip
noncomputable def cN(P:Program)(f:FuncId):Func:=(P.funcs[f]?).getD default
def cL:Code->Code
 | .seq a _=>a
 | .cond _ a _=>a
 | .block _ a=>a
 | .loop a=>a
 | .scope a=>a
 | .rangeFunc _ _ a _=>a
 | c=>c
def cR:Code->Code
 | .seq _ b=>b
 | .cond _ _ b=>b
 | .rangeFunc _ _ _ b=>b
 | c=>c
def lkH{α:Type}(l:List (Nat×α))(d:α)(n:Nat):α:=match l with
 | []=>d
 |(k,x)::r=>match Nat.beq k n with
  | true=>x
  | false=>lkH r d n
def B6t(P:Program)(C:A33)(H:Hint)(c:Code)(cur:Nat)(K:A0l)(l:List Value)(s:St):Prop:=
 ∀I:List Value->St->Prop,(∀l s,evC P C H c cur (A5n H cur I K) (ofL l) s->I l s)->I l s
end Go.Zz
namespace Go.Zz
open Go
variable {P : Program} {G : Nat} {s : St} {J : Nat → Plc} {w : World} {F : Fence} {C : A33}
def Wide(F:Fence):Prop:=F=Fence.wide\/∃l,F=Fence.wide.inRound l
theorem Wide.fn(h:Wide F)(f:FuncId):F.fn f:=by rcases h with rfl|⟨l,rfl⟩<;>trivial
theorem Wide.depth(h:Wide F):F.depth.isSome=true->1<=0:=by rcases h with rfl|⟨l,rfl⟩<;>(intro h;simp[Fence.wide]at h)
theorem Wide.calls(h:Wide F){n:Nat}{f:FuncId}{args:Array Value}{R:Ending->World->Prop}(hc:CallsIn Fence.wide n P f args w R):CallsIn F n P f args w R:=by
 rcases h with rfl|⟨l,rfl⟩
 ·exact hc
 ·exact CallsIn.inRound l hc
def B59(G:Nat)(s:St)(J:Nat->Plc)(w:World)(Q:Post):Ending->World->Prop:=fun e w'=>∃v',e=.returned v'/\A82 G s J w Q v' w'
def B9s(P:Program)(G:Nat)(C:A33):Prop:=(∀f args Q s,C f args Q s->∀(J:Nat->Plc) (w:World) (args':Array Value),Sim G s J w->VRs s.next J args args'->A3s P f=true->
 CallsIn Fence.wide 0 P f args' w (B59 G s J w Q))/\
 (∀b args Q s,C (tok b) args Q s->∀(J:Nat->Plc) (w:World) (args':Array Value),Sim G s J w->VRs s.next J args args'->b<s.next->
  YieldAt Fence.wide 0 P (J b).cb args' w (B59 G s J w Q))/\
 (∀b args Q s,(∀(J:Nat->Plc) (w:World) (args':Array Value),Sim G s J w->VRs s.next J args args'->b<s.next->YieldAt Fence.wide 0 P (J b).cb args' w (B59 G s J w Q))->C (tok b) args Q s)
theorem Wide.round(h:Wide F){n l f:Nat}{tmps:Array Value}{assign body:Code}{R:Ending->World->Prop}(hc:RoundIn Fence.wide n P l f tmps assign body w R):RoundIn F n P l f tmps assign body w R:=by
 rcases h with rfl|⟨l,rfl⟩
 ·exact hc
 ·exact hc
def H0t(G N:Nat)(ds:List Deferred)(s0:St)(J0:Nat->Plc)(w0:World)(K:Fr->St->Prop)(a:Act)(w:World):Prop:=
 ∃A s J,K A s/\Sim G s J w/\VRf N s.next J A a.tmps/\a.defers=ds/\Step s0 J0 w0 s J w
theorem VRf.put{N n:Nat}{A:Fr}{a:Act}(h:VRf N n J A a.tmps)(dst:Option Tmp){x y:Value}(hv:VR n J false x y):VRf N n J (putA N A dst x) (a.put dst y).tmps:=by
 cases dst with
 | none=>exact h
 | some d=>
  refine⟨by simp[Act.put,h.1],fun i=>?_⟩
  simp only[putA,Act.put];cases hb:Nat.blt d N with
  | true=>
   have hlt:d<N:=by simpa using hb
   by_cases hd:d=i
   ·subst hd;simp only;rw[A9c];simp[h.1,hlt];exact hv
   ·simp only;rw[A4t _ hd];have:=h.2 i;simpa[Array.getElem?_setIfInBounds_ne hd]using this
  | false=>
   have hlt:¬d<N:=fun hlt=>by
    have:Nat.blt d N=true:=by simpa using hlt
    rw[hb]at this;cases this
   have hsz:a.tmps.size<=d:=by rw[h.1];exact Nat.le_of_not_lt hlt
   rw[Array.setIfInBounds_eq_of_size_le hsz];exact h.2 i
theorem A9h{f:FuncId}(h:A3s P f=true)(args:Array Value)(w:World):(callFunc f args).run P w=.ok (.enter f args) w:=by
 unfold A3s at h;cases hf:P.funcs[f]? with
 | none=>rw[hf]at h;cases h
 | some fn=>
  rw[hf]at h;simp only[Bool.and_eq_true,bne_iff_ne,ne_eq]at h;obtain⟨⟨h1,h2⟩,_⟩:=h;obtain⟨c,hc⟩:=Option.isSome_iff_exists.1 h2;simp[callFunc,hf,h1,hc]
theorem D1a{t:TypeId}{name:String}{g:FuncId}(h:C5p P t name=some g)(v:Value)(k:Nat)(w:World):(method (k+1) t v name).run P w=.ok (g,v) w:=by
 unfold C5p at h;split at h
 ·rename_i m hm;cases hi:P.info? t with
  | none=>rw[hi]at hm;cases hm
  | some i=>
   rw[hi]at hm;have hm':i.methods.find? (fun x=>x.name==name)=some m:=hm;split at h
   ·rename_i f e hf hu;split at h
    ·rename_i hp;cases h;have hp':m.path=#[]:=by simpa using hp
     simp[method,typeInfo,hi,hm',hp',follow,hf,receiverAt,run_underlying hu,Place.get]
    ·cases h
   ·cases h
   ·cases h
   ·rename_i f d hn1 hn2 hf hu;split at h
    ·rename_i hp;cases h;have hp':m.path=#[]:=by simpa using hp
     have hne:∀e,d≠.pointer e:=fun e he=>by subst he;exact hn1 e rfl
     simp only[method,typeInfo,Sem.run_bind,run_program,Result.andThen_ok,hi,Sem.run_pure,hm',hp',follow,hf,receiverAt,run_underlying hu];cases d<;>first|(exact absurd rfl (hne _))|rfl
    ·cases h
   ·cases h
 ·cases h
theorem B2r(hF:Wide F)(o:Oper)(a:Act):∀f,o.about P w a.eval=some f->F.fn f:=fun f _=>hF.fn f
theorem B4g : Extern.allNextRows.lookup "slices.overlaps" = none ∧ Extern.allGenericRows.lookup "slices.overlaps" = none := ⟨by kernel_rfl, by kernel_rfl⟩
theorem C0i (a b : Array TypeId) : (Extern.allTypedRows.lookup "slices.overlaps").map (· a b) = some (Extern.SlicesOverlaps.overlaps a b) := by kernel_rfl
def B74(t:TypeId)(a b:Option Addr)(la lb:Nat):Sem Value:=do
 let .slice elem ← underlying t | stuck "slices.overlaps: slice type expected"
 let size <-sizeOf elem
 match a,b with
 | some a,some b=>
  if la=0\/lb=0\/size=0 then pure (.bool false)
  else if a.block != b.block&&(<-frozen a)&&(<-frozen b)then unsupported .addressObserved
  else do
   if a.block != b.block then do
    noView a;noView b
    if ← mayBeOne a b then return .bool ((← choose (.extern "sameAddr.stringBytes" 2)) == 1)
   pure (.bool (a.block==b.block&&a.off<b.off+lb*size&&b.off<a.off+la*size))
 | _,_=>pure (.bool false)
theorem A9b(t u:TypeId)(r:Array TypeId)(a b:Option Addr)(la ca lb cb:Nat):Extern.SlicesOverlaps.overlaps #[t,u] r #[.slice a la ca,.slice b lb cb]=B74 t a b la lb:=rfl
theorem E16{g:FuncId}{args:List Value}{args':Array Value}{k:Post}(hS:Sim G s J w)(h:ovlW (tOvl P g) args k s)(hA:VRs s.next J args args') :
  ∃v,(callFunc g args').run P w=.ok (.value v) w/\A82 G s J w k v w:=by
 cases hz:tOvl P g with
 | none=>rw[hz]at h;unfold ovlW at h;split at h<;>first|exact h.elim|simp_all
 | some z=>
  rw[hz]at h;unfold tOvl at hz;cases hf:P.funcs[g]? with
  | none=>rw[hf]at hz;cases hz
  | some fn=>
   rw[hf]at hz;simp only at hz;split at hz
   ·rename_i hc;simp only[Bool.and_eq_true,bne_iff_ne,ne_eq,beq_iff_eq,Option.isNone_iff_eq_none]at hc;obtain⟨⟨⟨⟨⟨⟨c1,c2⟩,c3⟩,c4⟩,c5⟩,c6⟩,c7⟩:=hc;split at hz
    ·rename_i t u hp;rw[Option.map_eq_some_iff]at hz;obtain⟨⟨e,m,bb,zz⟩,hs,rfl⟩:=hz;obtain⟨hu,i,v,hi,hsz,hb,hzv,hpl,hl,hzl,hpos⟩:=A3b hs;have hpar:fn.params=#[t,u]:=by apply Array.ext';simpa using hp
     have hn:Extern.findNext fn=none:=by
      unfold Extern.findNext;simp only;rw[c4,c2,B4g.1];rfl
     have he:Extern.find fn=some (Extern.SlicesOverlaps.overlaps fn.params fn.resultTypes):=by
      have:=C0i fn.params fn.resultTypes;unfold Extern.find;simp only;rw[c5,c6,c7,c2,B4g.2,this];rfl
     have hrun:∀{y:Value},(Extern.SlicesOverlaps.overlaps #[t,u] fn.resultTypes args').run P w=.ok y w->(callFunc g args').run P w=.ok (.value y) w:=fun hy=>by
      rw[run_callFunc_extern hf (by simpa using c1) (by simp[c3]) hn he args' w,hpar,hy]
      rfl
     have hsize:∀w:World,(sizeOf e).run P w=.ok m w:=fun w=>by rw[A1d hi,hsz]
     have fin:∀{b:Bool},k (.bool b) s->(Extern.SlicesOverlaps.overlaps #[t,u] fn.resultTypes args').run P w=.ok (.bool b) w->∃v,(callFunc g args').run P w=.ok (.value v) w/\A82 G s J w k v w:=
      fun hk hy=>⟨_,hrun hy,_,s,J,hk,.one (.bool _),hS,.refl _ _ _⟩
     unfold ovlW at h;split at h
     ·rename_i z' a la ca b lb cb hzz;cases hzz;obtain⟨y1,y2,rfl⟩:∃y1 y2,args'=#[y1,y2]:=by
       have:=hA.1
       match args',this with
       |⟨[y1,y2]⟩,_=>exact⟨y1,y2,rfl⟩
      have r1:VR s.next J false (.slice a la ca) y1:=hA.2 0 _ _ rfl rfl
      have r2:VR s.next J false (.slice b lb cb) y2:=hA.2 1 _ _ rfl rfl
      have nil:∀(a b:Option Addr) (la ca lb cb:Nat),a=none\/b=none\/la=0\/lb=0->(Extern.SlicesOverlaps.overlaps #[t,u] fn.resultTypes #[.slice a la ca,.slice b lb cb]).run P w=.ok (.bool false) w:=by
       intro a b la ca lb cb hor;rw[A9b];unfold B74;cases a with
       | none=>simp[run_underlying hu,hsize]
       | some a=>
        cases b with
        | none=>simp[run_underlying hu,hsize]
        | some b=>
         have:la=0\/lb=0\/m=0:=by rcases hor with h|h|h|h<;>first|(cases h;done)|(subst h;simp)|simp[h]
         simp[run_underlying hu,hsize,this]
      cases a with
      | none=>
       obtain⟨rfl,rfl,rfl⟩:=r1.nilSlice_inv;cases b with
       | none=>obtain⟨rfl,rfl,rfl⟩:=r2.nilSlice_inv;exact fin h (nil _ _ _ _ _ _ (.inl rfl))
       | some b=>obtain⟨b',c',rfl,_⟩:=r2.slice_inv;exact fin h (nil _ _ _ _ _ _ (.inl rfl))
      | some a=>
       obtain⟨a',ca',rfl,ha1,ha2,ha3,ha4,ha5,ha6⟩:=r1.slice_inv;cases b with
       | none=>obtain⟨rfl,rfl,rfl⟩:=r2.nilSlice_inv;exact fin h (nil _ _ _ _ _ _ (.inr (.inl rfl)))
       | some b=>
        obtain⟨b',cb',rfl,hb1,hb2,hb3,hb4,hb5,hb6⟩:=r2.slice_inv;simp only at h;split at h
        ·rename_i h0;exact fin h (nil _ _ _ _ _ _ (.inr (.inr h0)))
        ·rename_i h0;have hla:la≠0:=fun e=>h0 (.inl e);have hlb:lb≠0:=fun e=>h0 (.inr e);have ea:a'=tr (J a.block) a:=ha5.resolve_left (by omega)
         have eb:b'=tr (J b.block) b:=hb5.resolve_left (by omega)
         subst ea eb;have hcond:¬(la=0\/lb=0\/m=0):=by omega
         split at h
         ·rename_i hbl;refine fin h ?_;rw[A9b];unfold B74;simp only[tr,hbl];simp[run_underlying hu,hsize,hcond];have e1:∀x y z:Nat,decide (z+x<z+y)=decide (x<y):=fun x y z=>by apply decide_eq_decide.2;omega
          rw[Nat.add_assoc,Nat.add_assoc,e1,e1]
         ·rename_i hbl;split at h
          ·rename_i vs ta us tb hrow hrow';obtain⟨hto,hle,hle',hk⟩:=h;obtain⟨g1,_,c,ee,fr,hc,hcs,_,_,hfr,hft⟩:=hS.obj _ _ hrow;obtain⟨g1',_,c',ee',fr',hc',hcs',_,_,hfr',hft'⟩:=hS.obj _ _ hrow';have pos1:0<la*m:=Nat.mul_pos (by omega) hpos
           have pos2:0<lb*m:=Nat.mul_pos (by omega) hpos
           refine fin hk ?_;by_cases hcb:(J a.block).cb=(J b.block).cb
           ·have hap:∀o,Owns (J a.block) (.cells vs ta) (J a.block).cb o->¬Owns (J b.block) (.cells us tb) (J a.block).cb o:=fun o=>hS.apart _ _ _ _ (J a.block).cb o hbl hrow hrow';rw[A9b];unfold B74;simp only[tr,hcb];simp[run_underlying hu,hsize,hcond];intro h1;rcases Nat.lt_or_ge ((J b.block).k+b.off) ((J a.block).k+a.off)with hlt|hge
            ·exfalso;exact hap ((J a.block).k+a.off) ⟨rfl,by omega,by omega⟩ ⟨hcb.symm,by omega,by omega⟩
            ·rcases Nat.lt_or_ge ((J b.block).k+b.off) ((J a.block).k+a.off+la*m)with hlt|hge'
             ·exfalso;exact hap ((J b.block).k+b.off) ⟨rfl,by omega,by omega⟩ ⟨hcb.symm,by omega,by omega⟩
             ·exact hge'
           ·have hne1:((J a.block).cb !=(J b.block).cb)=true:=by simpa using hcb
            have hne2:((J a.block).cb==(J b.block).cb)=false:=by simpa using hcb
            have hca:0<c.size:=by omega
            have hsa:w.shape? (J a.block).cb=some (ee,c.size):=by simp[World.shape?,hc]
            have hsb:w.shape? (J b.block).cb=some (ee',c'.size):=by simp[World.shape?,hc']
            rcases(by simpa using hto:ta=true\/tb=true)with ht|ht
            ·have:=hft ht;subst this;have hfa:∀o,w.frozen? ⟨(J a.block).cb,o,none⟩=false:=fun o=>by simp[World.frozen?,hc]
             rw[A9b];unfold B74;cases hcc:c.size with
             | zero=>omega
             | succ q=>
              rw[hcc]at hsa;cases hcc':c'.size with
              | zero=>omega
              | succ q'=>
              rw[hcc']at hsb;cases hfb:w.frozen? { block:=(J b.block).cb,off:=(J b.block).k+b.off }<;>cases hfb2:w.frozen? { block:=(J b.block).cb,off:=q'+1 }<;>
              simp[hfb,hfb2,run_underlying hu,hsize,hcond,tr,hne1,hne2,frozen,noView,viewAt,mayBeOne,stringish,shape,Sem.run,hsa,hsb,hfa]
            ·have:=hft' ht;subst this;have hfb:∀o,w.frozen? ⟨(J b.block).cb,o,none⟩=false:=fun o=>by simp[World.frozen?,hc']
             rw[A9b];unfold B74;cases hcc:c.size with
             | zero=>omega
             | succ q=>
              rw[hcc]at hsa;cases hcc':c'.size with
              | zero=>omega
              | succ q'=>
              rw[hcc']at hsb;cases hfa:w.frozen? { block:=(J a.block).cb,off:=(J a.block).k+a.off }<;>cases hfa2:w.frozen? { block:=(J a.block).cb,off:=q+1 }<;>
              simp[hfa,hfa2,run_underlying hu,hsize,hcond,tr,hne1,hne2,frozen,noView,viewAt,mayBeOne,stringish,shape,Sem.run,hsa,hsb,hfb]
          ·exact h.elim
     ·exact h.elim
    ·cases hz
   ·cases hz
def OpR(G:Nat)(s:St)(J:Nat->Plc)(w:World)(k:Post)(a:Act)(dst:Option Tmp):Act->World->Prop:=fun a' w'=>∃v',a'=a.put dst v'/\A82 G s J w k v' w'
theorem D5r(hF:Wide F)(hC:B9s P G C){o:Oper}{a:Act}{k:Post}{ρ:Operand->Value}{Q:Exit->Act->World->Prop}
  (hS:Sim G s J w) (hρ:∀x,VR s.next J false (ρ x) (a.eval x))
  (h:opW P C o.op ρ k s):o.wpIn F 0 P a w (OpR G s J w k a o.dst) Q:=by
 refine⟨B2r hF o a,?_⟩;have fin:∀{v v':Value} {s1:St} {J1:Nat->Plc} {w1:World},k v s1->VR s1.next J1 false v v'->Sim G s1 J1 w1->Step s J w s1 J1 w1->OpR G s J w k a o.dst (a.put o.dst v') w1:=by
  intro v v' s1 J1 w1 hk hv hS1 h1;exact⟨v',rfl,v,s1,J1,hk,hv,hS1,h1⟩
 have hsem:(∀c,o.op≠.defer c)->(o.semAt F.round a.eval).run P w=(execOp a.eval o).run P w:=fun hnd=>by rw[Oper.semAt_eq _ _ _ hnd]
 have value:∀{v':Value} {w1:World},(∀c,o.op≠.defer c)->(execOp a.eval o).run P w=.ok (.value v') w1->OpR G s J w k a o.dst (a.put o.dst v') w1->o.uponIn F 0 P a (OpR G s J w k a o.dst) Q ((o.semAt F.round a.eval).run P w):=by
  intro v' w1 hnd hr hk;rw[hsem hnd,hr];exact hk
 unfold opW at h;have hnd:cls o.op=.p\/cls o.op=.r\/cls o.op=.a->∀c,o.op≠.defer c:=by
  intro hc c he;rw[he]at hc;simp[cls]at hc
 split at h
 ·rename_i hc;unfold A1s at h;split at h
  ·rename_i v hv;obtain⟨v',h1,h2⟩:=C7i hc hρ hv;exact value (hnd (.inl hc)) (h2 w) (fin h h1 hS (.refl _ _ _))
  ·exact h.elim
 ·rename_i hc;unfold A1s at h;split at h
  ·rename_i v hv;obtain⟨v',h1,h2⟩:=C5z hS hc hρ hv;exact value (hnd (.inr (.inl hc))) (h2 w (.refl w)) (fin h h1 hS (.refl _ _ _))
  ·exact h.elim
 ·rename_i hc;unfold newW at h;split at h
  ·rename_i x nk hn;obtain⟨hk,ob,h1,h2⟩:=D8o hc hρ hn;have hS1:=(hS.holds (A51 w ob)).install (x:=x) (o:=ob) (blk:=w.heap.size) (by show(w.heap.push _)[w.heap.size]?=_;exact Array.getElem?_push_size)
    (fun k=>by rintro⟨b,y,hy,ho⟩;have:=(hS.obj b y hy).lt;rw[ho.cb]at this;omega) h1
   have hst:Step s J w (s.alloc x) (putJ J s.next ⟨w.heap.size,0,A8t x,0⟩) (w.alloc ob):=
    Step.install hS.live ((Step.refl s J w).alloc ob) (Nat.le_refl _)
   exact value (hnd (.inr (.inr hc))) (h2 w) (fin h (NewV.rel hk _) hS1 hst)
  ·exact h.elim
 ·rename_i hc;have after:∀{v':Value} {w1:World},A82 G s J w k v' w1->OpR G s J w k a o.dst (a.put o.dst v') w1:=by
   rintro v' w1 ⟨v,s1,J1,hk,hv,hS1,h1⟩;exact fin hk hv hS1 h1
  obtain⟨dst,op,type,pos,aft,guard⟩:=o;cases op<;>simp only[effW]at h<;>(try exact h.elim)
  case store t p x=>
   obtain⟨w1,h1,h2⟩:=C90 hS h (hρ p) (hρ x);rw[hsem (fun c he=>by cases he)]
   simp only[execOp,Sem.run_bind,h1,Result.andThen_ok,Sem.run_pure];exact after h2
  case mapUpdate t m key x=>
   obtain⟨w1,h1,h2⟩:=B5g hS h (hρ m) (hρ key) (hρ x);rw[hsem (fun c he=>by cases he)]
   simp only[execOp,Sem.run_bind,h1,Result.andThen_ok,Sem.run_pure];exact after h2
  case insert t m key x=>
   obtain⟨w1,h1,h2⟩:=B5g hS h (hρ m) (hρ key) (hρ x);rw[hsem (fun c he=>by cases he)]
   simp only[execOp,Sem.run_bind,h1,Result.andThen_ok,Sem.run_pure];exact after h2
  case range t x=>
   obtain⟨v',w1,h1,h2⟩:=D0p hS h (hρ x);rw[hsem (fun c he=>by cases he)]
   simp only[execOp,Sem.run_bind,h1,Result.andThen_ok,Sem.run_pure];exact after h2
  case next x b=>
   obtain⟨v',w1,h1,h2⟩:=D6i (ty:=type) hS h (hρ x);rw[hsem (fun c he=>by cases he)]
   simp only[execOp,Sem.run_bind,Sem.run_pure]
   erw [h1]
   exact after h2
  case entry x=>
   obtain⟨v',h1,h2⟩:=D0c hS h (hρ x);rw[hsem (fun c he=>by cases he)]
   simp only[execOp,Sem.run_bind,Sem.run_pure]
   erw [h1]
   exact after h2
  case call c=>
   rw[hsem (fun c he=>by cases he)]
   simp only[execOp];unfold G76 at h;split at h
   ·-- builtin
    rename_i b hce;have hargs:∀{l:List Operand},c.args.toList=l->c.args=l.toArray:=fun hl=>by rw[<-hl]
    have htys:∀{l:List TypeId},c.argTypes.toList=l->c.argTypes=l.toArray:=fun hl=>by rw[<-hl]
    split at h
    ·rename_i x y t u ha ht;unfold apdW at h;split at h
     ·rename_i e z b zero hs;obtain⟨v',w1,h1,h2⟩:=E4b (ty:=type) hS hs h (hρ x) (hρ y);simp only[resolve,hce,Sem.run_bind,Sem.run_pure,Result.andThen_ok,invoke,builtin,hargs ha,htys ht,List.map_toArray,List.map_cons,List.map_nil,h1];exact after h2
     ·exact h.elim
    ·rename_i x y t tl ha ht;unfold cpyW at h;split at h
     ·rename_i e z b zero hs;obtain⟨v',w1,h1,h2⟩:=D33 (ty:=type) hS hs h (hρ x) (hρ y) (ts:=c.argTypes) (by rw[htys ht];rfl)
      simp only[resolve,hce,Sem.run_bind,Sem.run_pure,Result.andThen_ok,invoke,builtin,hargs ha,List.map_toArray,List.map_cons,List.map_nil,h1];exact after h2
     ·exact h.elim
    ·rename_i x y t tl ha ht;obtain⟨w1,h1,h2⟩:=E44 (ty:=type) hS h (hρ x) (hρ y) (ts:=c.argTypes) (by rw[htys ht];rfl)
     simp only[resolve,hce,Sem.run_bind,Sem.run_pure,Result.andThen_ok,invoke,builtin,hargs ha,List.map_toArray,List.map_cons,List.map_nil,h1];exact after h2
    ·rename_i x t ha ht;obtain⟨v',w1,h1,h2⟩:=C9o (ty:=type) hS h (hρ x);simp only[resolve,hce,Sem.run_bind,Sem.run_pure,Result.andThen_ok,invoke,builtin,hargs ha,htys ht,List.map_toArray,List.map_cons,List.map_nil,h1];exact after h2
    ·rename_i x t ha ht;obtain⟨v',h1,h2⟩:=E13 (ty:=type) hS h (hρ x);simp only[resolve,hce,Sem.run_bind,Sem.run_pure,Result.andThen_ok,invoke,builtin,hargs ha,htys ht,List.map_toArray,List.map_cons,List.map_nil,h1];exact after h2
    ·exact h.elim
   ·-- a function's value
    rename_i f hce;unfold A0u at h;split at h
    ·rename_i g first captured hf
     have hfv:=hρ f;rw[hf]at hfv;obtain⟨fs',cs',e3,hsz,hrel,hfsz,hfrel⟩:=hfv.func_inv;have hvrs0:VRs s.next J (c.args.toList.map ρ++captured.toList) (c.args.map a.eval++cs'):=by
      refine⟨by simp[hsz],fun i x y hx hy=>?_⟩
      by_cases hi:i<c.args.size
      ·rw[List.getElem?_append_left (by simpa using hi)]at hx
       rw[Array.getElem?_append_left (by simpa using hi)]at hy
       exact B4a hρ i x y hx (by simpa using hy)
      ·rw[List.getElem?_append_right (by simpa using hi)]at hx
       rw[Array.getElem?_append_right (by simpa using hi)]at hy
       simp only[List.length_map,Array.length_toList,Array.size_map]at hx hy;exact .one (hrel _ x y (by simpa using hx) hy)
     have hvrs:VRs s.next J (first.toList++(c.args.toList.map ρ++captured.toList)) (fs'++c.args.map a.eval++cs'):=by
      refine⟨by have:=hvrs0.1;simp at this ⊢;omega,fun i x y hx hy=>?_⟩
      rw[Array.append_assoc]at hy;by_cases hi:i<first.size
      ·rw[List.getElem?_append_left (by simpa using hi)]at hx
       rw[Array.getElem?_append_left (by omega)]at hy
       exact hfrel i x y (by simpa using hx) hy
      ·rw[List.getElem?_append_right (by simpa using hi)]at hx
       rw[Array.getElem?_append_right (by omega)]at hy
       rw[<-hfsz]at hy;exact hvrs0.2 _ x y (by simpa using hx) hy
     unfold B3u at h;split at h
     case h_2=>
      obtain⟨v',h1,h2⟩:=E16 hS h hvrs;simp only[resolve,hce,e3,Deferred.ofValue,Sem.run_bind,Sem.run_pure,Result.andThen_ok,invoke,Array.empty_append,h1];exact after h2
     rename_i hb;have hcl:=hC.1 _ _ _ _ h J w _ hS hvrs hb;simp only[resolve,hce,e3,Deferred.ofValue,Sem.run_bind,Sem.run_pure,Result.andThen_ok,invoke,Array.empty_append,A9h hb];refine⟨hF.depth,(hF.calls hcl).mono ?_⟩;rintro e w1 ⟨v',rfl,h2⟩;exact after h2
    ·rename_i b first captured hf
     obtain⟨hfirst,hcap,h⟩:=h;have hfv:=hρ f;rw[hf]at hfv;obtain⟨hb,e3⟩:=hfv.yield_inv hcap;have hvrs:VRs s.next J (c.args.toList.map ρ) (c.args.map a.eval):=⟨by simp,fun i x y hx hy=>B4a hρ i x y hx (by simpa using hy)⟩
     obtain⟨fn,tmps,asg,body,hy,hR⟩:=hC.2.1 _ _ _ _ h J w _ hS hvrs hb;simp only[resolve,hce,e3,Deferred.ofValue,Sem.run_bind,Sem.run_pure,Result.andThen_ok,invoke,Array.empty_append,Array.append_empty,hy];refine⟨hF.depth,(hF.round hR).mono ?_⟩;rintro e w1 ⟨v',rfl,h2⟩;exact after h2
    ·exact h.elim
   ·-- a method of an interface's value
    rename_i r name hce;unfold E3r at h;split at h
    ·rename_i t v hr;split at h
     ·rename_i g hm;obtain⟨hb,hcall⟩:=h;have hrv:=hρ r;rw[hr]at hrv;obtain⟨v',e1,hvv,hdv⟩:=hrv.iface_inv;have hvrs:VRs s.next J (v::c.args.toList.map ρ) (#[v']++c.args.map a.eval):=by
       refine⟨by simp;omega,fun i x y hx hy=>?_⟩
       cases i with
       | zero=>
        rw[Array.getElem?_append_left (by simp)]at hy
        simp at hx hy;rw[<-hx,<-hy];exact hvv
       | succ i=>
        rw[List.getElem?_cons_succ]at hx;rw[Array.getElem?_append_right (by simp)]at hy
        simp only[List.size_toArray,List.length_cons,List.length_nil,Nat.zero_add,Nat.add_sub_cancel]at hy;exact B4a hρ i x y hx (by simpa using hy)
      have hcl:=hC.1 _ _ _ _ hcall J w _ hS hvrs hb;have hmr:∀w:World,(method (P.types.size+Made.depth) t v' name).run P w=.ok (g,v') w:=fun w=>D1a hm v' (P.types.size+99) w;have hex:(#[Value.iface t v']++c.args.map a.eval).extract 1 (#[Value.iface t v']++c.args.map a.eval).size=c.args.map a.eval:=by
       apply Array.ext';simp;exact List.take_of_length_le (by simp)
      have h0e:(#[Value.iface t v']++c.args.map a.eval)[0]?=some (.iface t v'):=by rw[Array.getElem?_append_left (by simp)];rfl
      simp only[resolve,hce,e1,Sem.run_bind,Sem.run_pure,Result.andThen_ok,invoke,h0e,hex,callMethod,run_program,hmr,A9h hb];refine⟨hF.depth,(hF.calls hcl).mono ?_⟩;rintro e w1 ⟨v',rfl,h2⟩;exact after h2
     ·exact h.elim
    ·exact h.elim
theorem G4k{N:Nat}{ds:List Deferred}(hF:Wide F)(hC:B9s P G C){s0:St}{J0:Nat->Plc}{w0:World}{o:Oper}{A:Fr}{a:Act}{K:Fr->St->Prop}{ρ:Operand->Value}{Q:Exit->Act->World->Prop}
  (hS:Sim G s J w) (hA:VRf N s.next J A a.tmps) (hd:a.defers=ds) (h0:Step s0 J0 w0 s J w) (hρ:∀x,VR s.next J false (ρ x) (a.eval x))
  (h:opW P C o.op ρ (fun v s'=>K (putA N A o.dst v) s') s):o.wpIn F 0 P a w (H0t G N ds s0 J0 w0 K) Q:=by
 refine Oper.wpIn_mono ?_ (D5r hF hC hS hρ h);rintro a' w' ⟨v',rfl,v,s1,J1,hk,hv,hS1,h1⟩;refine⟨_,s1,J1,hk,hS1,(hA.mono h1.le h1.ext).put o.dst hv,?_,h0.trans h1⟩;cases o.dst<;>exact hd
end Go.Zz
namespace Go.Zz
open Go
theorem A7v{p:Nat->Bool}:∀{n j:Nat},B3w p n=some j->j<n/\p j=true/\∀k,j<k->k<n->p k=false
 | 0,_,h=>by cases h
 | n+1,j,h=>by
  unfold B3w at h;cases hp:p n with
  | true=>
   simp only[hp,if_true,Option.some.injEq]at h;subst h;exact⟨Nat.lt_succ_self _,hp,fun k h1 h2=>by omega⟩
  | false=>
   simp only[hp,Bool.false_eq_true,if_false]at h;obtain⟨h1,h2,h3⟩:=A7v h;refine⟨by omega,h2,fun k hk hk'=>?_⟩
   by_cases he:k=n
   ·rw[he];exact hp
   ·exact h3 k hk (by omega)
theorem B27{p:Nat->Bool}:∀{n:Nat},B3w p n=none->∀k,k<n->p k=false
 | 0,_=>fun k hk=>by omega
 | n+1,h=>fun k hk=>by
  unfold B3w at h;cases hp:p n with
  | true=>simp[hp]at h
  | false=>
   simp only[hp,Bool.false_eq_true,if_false]at h;by_cases he:k=n
   ·rw[he];exact hp
   ·exact B27 h k (by omega)
def A95(L:List Oper)(S:Nat->Prop):Prop:=∀(i:Nat) (o:Oper),L[i]?=some o->S i->∀e∈o.after,Region.binds .any e=true->S e.on
def B3r(L:List Oper)(i j:Nat):Prop:=∀S,A95 L S->S i->S j
theorem C37{acc:List Nat}{j:Nat}:∀(l:List Edge) (m:Nat),(l.foldl (fun m e=>if Region.binds .any e then m |||(1<<<e.on) ||| acc.getD e.on 0 else m) m).testBit j=true->
  m.testBit j=true\/∃e∈l,Region.binds .any e=true/\(e.on=j\/(acc.getD e.on 0).testBit j=true):=by
 intro l;induction l with
 | nil=>intro m h;exact .inl h
 | cons e l ih=>
  intro m h;rw[List.foldl_cons]at h;rcases ih _ h with h|⟨e',he',hb,h⟩
  ·split at h
   ·rename_i hb;simp only[Nat.testBit_or,Bool.or_eq_true,Nat.one_shiftLeft,Nat.testBit_two_pow,decide_eq_true_eq]at h;rcases h with(h|h)|h
    ·exact .inl h
    ·exact .inr ⟨e,by simp,hb,.inl h⟩
    ·exact .inr ⟨e,by simp,hb,.inr h⟩
   ·exact .inl h
  ·exact .inr ⟨e',by simp[he'],hb,h⟩
theorem D0t{L:List Oper}{bef:List Nat}(h:∀i o,L[i]?=some o->bef.getD i 0=C7s bef o/\∀e∈o.after,Region.binds .any e=true->e.on<i) :
  ∀i j,i<L.length->B06 bef i j=true->B3r L i j:=by
 intro i;induction i using Nat.strongRecOn with
 | _ i ih=>
  intro j hi hj S hS hSi;have ho:=List.getElem?_eq_getElem hi;obtain⟨h1,h2⟩:=h i _ ho;unfold B06 at hj;rw[h1]at hj;unfold C7s at hj;rcases C37 _ _ hj with h0|⟨e,he,hb,h3⟩
  ·simp at h0
  ·have he':e∈L[i].after:=by simpa using he
   have hon:=hS _ _ ho hSi e he' hb;rcases h3 with rfl|h3
   ·exact hon
   ·exact ih e.on (h2 e he' hb) j (Nat.lt_trans (h2 e he' hb) hi) h3 S hS hon
structure Ok(P:Program)(L:List Oper)(p:Plan)(n:Nat):Prop where
 es:p.es=(List.range L.length).filter (isK .e p L)
 back:∀(i:Nat) (o:Oper),L[i]?=some o->∀e∈o.after,Region.binds .any e=true->e.on<i
 ord:∀l k,l<p.es.length->k<l->B3r L (p.es.getD l 0) (p.es.getD k 0)
 raw:∀y x d,y<L.length->x<y->A34 L x=some d->d∈B3p L y->B3r L y x
 waw:∀y x d,y<L.length->x<y->A34 L x=some d->A34 L y=some d->B3r L y x
 war:∀y x d,y<L.length->x<y->A34 L y=some d->d∈B3p L x->B3r L y x
 grd:∀(i:Nat) (o:Oper) (j:Nat) (b:Bool),L[i]?=some o->o.guard=some (j,b)->j<i/\B3r L i j/\isK .a p L i=false/\isK .a p L j=false/\∃d,A34 L j=some d/\∀k,A34 L k=some d->k=j
 avm:∀i,i<L.length->isK .e p L i=false->p.av.getD i 0<=p.es.length/\p.hi.getD i 0<=p.es.length/\(p.hi.getD i 0=p.es.length\/B3r L (p.es.getD (p.hi.getD i 0) 0) i)
 ava:∀i,i<L.length->isK .a p L i=true->p.av.getD i 0=p.hi.getD i 0
 avl:∀i,i<L.length->isK .e p L i=false->isK .a p L i=false->∀k,k<p.av.getD i 0->B3r L i (p.es.getD k 0)
 avs:∀i,i<L.length->isK .e p L i=false->isK .a p L i=false->∀j∈srcs L i,if isK .e p L j=true then j∈p.es.take (p.av.getD i 0)else isK .a p L j=false/\p.av.getD j 0<=p.av.getD i 0
 ese:∀k,k<p.es.length->∀j∈srcs L (p.es.getD k 0),if isK .e p L j=true then j∈p.es.take k else p.av.getD j 0<=k
 dst:∀i d,A34 L i=some d->d<n
 made:∀(i:Nat) (o:Oper),L[i]?=some o->isK .a p L i=true->cls o.op=.a
 eal:∀i,i<L.length->isK .a p L i=true->p.ear.getD i 0<=p.es.length/\∀k,k<p.ear.getD i 0->B3r L i (p.es.getD k 0)
 eas:∀i,i<L.length->isK .a p L i=true->∀j∈srcs L i,if isK .e p L j=true then j∈p.es.take (p.ear.getD i 0)else isK .a p L j=false/\p.av.getD j 0<=p.ear.getD i 0
theorem A6e{k:Kind}{p:Plan}{L:List Oper}{i:Nat}(h:isK k p L i=true):i<L.length:=by
 unfold isK at h;split at h
 ·rename_i o ho;exact(List.getElem?_eq_some_iff.1 ho).1
 ·cases h
theorem B8w{L:List Oper}{i d:Nat}(h:A34 L i=some d):i<L.length:=by
 unfold A34 at h;cases ho:L[i]? with
 | none=>rw[ho]at h;cases h
 | some o=>exact(List.getElem?_eq_some_iff.1 ho).1
theorem D45{P:Program}{L:List Oper}{p:Plan}{n:Nat}(h:(D56 L p n&&ok7 L p)=true):Ok P L p n:=by
 unfold D56 at h;simp only[Bool.and_eq_true,beq_iff_eq]at h;obtain⟨⟨⟨⟨⟨⟨⟨hes,h1⟩,h2⟩,h3⟩,h4⟩,h5⟩,h6⟩,h7⟩:=h;unfold ok1 at h1;simp only[Bool.and_eq_true,List.all_eq_true,List.mem_range]at h1;have hm:∀(i:Nat) (o:Oper),L[i]?=some o->p.bef.getD i 0=C7s p.bef o/\∀e∈o.after,Region.binds .any e=true->e.on<i:=fun i o ho=>by
  have:=h1.1 i (List.getElem?_eq_some_iff.1 ho).1;simp only[ho,Bool.and_eq_true,List.all_eq_true]at this;refine⟨Nat.eq_of_beq_eq_true this.1,fun e he hb=>?_⟩;have:=this.2 e (by simpa using he)
  simpa[hb]using this
 have R:∀{i j},i<L.length->B06 p.bef i j=true->B3r L i j:=fun {i j} hi hb=>D0t hm i j hi hb;have hel:∀l,l<p.es.length->p.es.getD l 0<L.length:=fun l hl=>by
  have hmem:p.es.getD l 0∈p.es:=by rw[List.getD_eq_getElem?_getD,List.getElem?_eq_getElem hl];exact List.getElem_mem hl
  rw[hes,List.mem_filter,List.mem_range]at hmem;rw[hes];exact hmem.1
 unfold ok2 at h2;simp only[List.all_eq_true,List.mem_range]at h2;unfold ok3 at h3;simp only[List.all_eq_true,List.mem_range]at h3;unfold ok4 at h4;simp only[List.all_eq_true,List.mem_range]at h4;unfold ok5 at h5;simp only[List.all_eq_true,List.mem_range]at h5;unfold ok6 at h6;unfold ok7 at h7;simp only[List.all_eq_true,List.mem_range]at h7;refine⟨hes,?_,fun l k hl hk=>R (hel l hl) (h1.2 l hl k hk),?_,?_,?_,?_,?_,?_,?_,?_,?_,?_,?_,?_,?_⟩
 ·exact fun i o ho=>(hm i o ho).2
 ·intro y x d hy hx hd hmm;have:=h2 y hy x hx;simp only[Bool.or_eq_true,Bool.and_eq_true]at this;rcases this with this|this
  ·exact R hy this
  ·have:=this.1;rw[hd]at this;simp[hmm]at this
 ·intro y x d hy hx hd hmm;have:=h2 y hy x hx;simp only[Bool.or_eq_true,Bool.and_eq_true]at this;rcases this with this|this
  ·exact R hy this
  ·have:=this.1;rw[hd]at this;simp[hmm]at this
 ·intro y x d hy hx hd hmm;have:=h2 y hy x hx;simp only[Bool.or_eq_true,Bool.and_eq_true]at this;rcases this with this|this
  ·exact R hy this
  ·have:=this.2;rw[hd]at this;simp[hmm]at this
 ·intro i o j b ho hg;have:=h3 i (List.getElem?_eq_some_iff.1 ho).1;rw[ho]at this;simp only[hg,Bool.and_eq_true,decide_eq_true_eq,Bool.not_eq_true']at this;obtain⟨⟨⟨⟨g1,g2⟩,g3⟩,g4⟩,g5⟩:=this;refine⟨g1,R (List.getElem?_eq_some_iff.1 ho).1 g2,g3,g4,?_⟩;cases hd:A34 L j with
  | none=>rw[hd]at g5;cases g5
  | some d=>
   rw[hd]at g5;refine⟨d,rfl,fun k hk=>?_⟩;simp only[List.all_eq_true,List.mem_range]at g5;have:=g5 k (B8w hk);simpa[hk]using this
 ·intro i hi he;have:=h4 i hi;simp only[he,Bool.false_or,Bool.and_eq_true,decide_eq_true_eq,Bool.or_eq_true,beq_iff_eq]at this;refine⟨this.1.1.1,this.1.1.2,?_⟩;rcases Nat.lt_or_ge (p.hi.getD i 0) p.es.length with hlt|hge
  ·exact this.1.2.imp id (R (hel _ hlt))
  ·exact .inl (by omega)
 ·intro i hi ha;have:=h4 i hi;have he:isK .e p L i=false:=by
   unfold isK at ha ⊢;split at ha
   ·rename_i o ho;have:A8l p i o=.a:=by simpa using ha
    simp[this]
   ·rfl
  simp only[he,Bool.false_or,Bool.and_eq_true,ha,if_true,beq_iff_eq]at this;exact this.2
 ·intro i hi he ha k hk;have:=h4 i hi;simp only[he,Bool.false_or,Bool.and_eq_true,ha,Bool.false_eq_true,if_false,List.all_eq_true,List.mem_range]at this;exact R hi (this.2.1 k hk)
 ·intro i hi he ha j hj;have:=h4 i hi;simp only[he,Bool.false_or,Bool.and_eq_true,ha,Bool.false_eq_true,if_false,List.all_eq_true,List.mem_range]at this;have:=this.2.2 j hj;split
  ·rename_i h;simpa[h]using this
  ·rename_i h;simpa[h]using this
 ·intro k hk j hj;have:=h5 k hk j hj;split
  ·rename_i h;simpa[h]using this
  ·rename_i h;simpa[h]using this
 ·intro i d hd;unfold A34 at hd;cases ho:L[i]? with
  | none=>rw[ho]at hd;cases hd
  | some o=>
   rw[ho]at hd;rw[List.all_eq_true]at h6;have:=h6 o (List.mem_of_getElem? ho);have hd:o.dst=some d:=hd;rw[hd]at this;simpa using this
 ·intro i o ho hk;have:=h7 i (List.getElem?_eq_some_iff.1 ho).1;simp only[ho,hk,Bool.not_true,Bool.false_or,Bool.and_eq_true]at this;have:=this.1.1.1;split at this<;>first|assumption|cases this
 ·intro i hi hk;have:=h7 i hi;simp only[List.getElem?_eq_getElem hi,hk,Bool.not_true,Bool.false_or,Bool.and_eq_true,decide_eq_true_eq,List.all_eq_true,List.mem_range]at this;exact⟨this.1.1.2,fun k hk=>R hi (this.1.2 k hk)⟩
 ·intro i hi hk j hj;have:=h7 i hi;simp only[List.getElem?_eq_getElem hi,hk,Bool.not_true,Bool.false_or,Bool.and_eq_true,decide_eq_true_eq,List.all_eq_true,List.mem_range]at this;have:=this.2 j hj;split
  ·rename_i h;simpa[h]using this
  ·rename_i h;simpa[h]using this
end Go.Zz
