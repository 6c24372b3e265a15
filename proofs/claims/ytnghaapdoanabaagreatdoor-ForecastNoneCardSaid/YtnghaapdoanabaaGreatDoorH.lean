import Derived.Test.YtnghaapdoanabaaGreatDoorE
set_option linter.all false
namespace Go.Zz
open Go
variable {P : Program} {G : Nat} {s : St} {J : Nat → Plc} {w : World}
def VRo(n:Nat)(J:Nat->Plc):Option Value->Option Value->Prop
 | none,none=>True
 | some x,some y=>VR n J false x y
 | _,_=>False
def Bd(v:Option Value)(d r:Nat):Prop:=match v with
 | none=>r=d
 | some u=>∃k i,u=.int k i/\0<=i/\r=i.toNat
theorem A49{n:Nat}{v v':Option Value}{d:Option Nat}{r:Nat}(h:A43? v d=some r)(hv:VRo n J v v')(hd:v=none->∃d0,d=some d0):Bd v' (d.getD 0) r:=by
 cases v with
 | none=>
  cases v' with
  | none=>obtain⟨d0,rfl⟩:=hd rfl;simp[A43?]at h;exact h.symm
  | some y=>exact hv.elim
 | some x=>
  cases v' with
  | none=>exact hv.elim
  | some y=>
   simp only[A43?]at h;cases x<;>simp[B0w?]at h;cases(show VR n J false _ _ from hv).int_inv
   exact⟨_,_,rfl,h.1,h.2.symm⟩
theorem A6v{n:Nat}{v v':Option Value}(hv:VRo n J v v'):v'.isSome=v.isSome:=by
 cases v<;>cases v'<;>first|rfl|exact hv.elim
theorem A1q{k:IntKind}{i:Int}{y:Nat}(h0:0<=i)(h1:i.toNat<=y)(code:BoundsCode)(w:World):(Instr.sliceBound (.int k i) y code).run P w=.ok i.toNat w:=by
 have:0<=i/\i<=(y:Int):=by omega
 simp[Instr.sliceBound,asIntOf,this]
theorem A5p{isSlice:Bool}{len cap:Nat}{lo hi mx:Option Value}{l h m:Nat}(hl:Bd lo 0 l)(hh:Bd hi len h)(hm:Bd mx cap m)(hs:mx.isSome->hi.isSome)
  (h1:l<=h) (h2:h<=m) (h3:m<=cap) (w:World):(Instr.sliceBounds isSlice len cap lo hi mx).run P w=.ok (l,h,m) w:=by
 have last:(lo=none/\l=0)\/∃k i,lo=some (.int k i)/\0<=i/\l=i.toNat:=by
  cases lo with
  | none=>exact .inl ⟨rfl,hl⟩
  | some u=>obtain⟨k,i,rfl,h0,rfl⟩:=hl;exact .inr ⟨_,_,rfl,h0,rfl⟩
 clear hl;cases mx with
 | none=>
  have hm':m=cap:=hm;subst hm';cases hi with
  | none=>
   have hh':h=len:=hh;subst hh';rcases last with⟨rfl,rfl⟩|⟨k',i',rfl,g0,rfl⟩
   ·simp[Instr.sliceBounds]
   ·simp[Instr.sliceBounds,A1q g0 h1]
  | some uh=>
   obtain⟨k,i,rfl,h0,rfl⟩:=hh;rcases last with⟨rfl,rfl⟩|⟨k',i',rfl,g0,rfl⟩
   ·simp[Instr.sliceBounds,A1q h0 h2]
   ·simp[Instr.sliceBounds,A1q h0 h2,A1q g0 h1]
 | some um=>
  obtain⟨k0,i0,rfl,hi0,rfl⟩:=hm;cases hi with
  | none=>simp at hs
  | some uh=>
   obtain⟨k,i,rfl,h0,rfl⟩:=hh;rcases last with⟨rfl,rfl⟩|⟨k',i',rfl,g0,rfl⟩
   ·simp[Instr.sliceBounds,A1q hi0 h3,A1q h0 h2]
   ·simp[Instr.sliceBounds,A1q hi0 h3,A1q h0 h2,A1q g0 h1]
theorem A7u{t e:TypeId}{i:TypeInfo}(hu:P.underlying t=some (.slice e))(hi:P.info? e=some i)(a:Option Addr)(n c:Nat){lo hi' mx:Option Value}{l h m:Nat}
  (hb:∀w,(Instr.sliceBounds true n c lo hi' mx).run P w=.ok (l,h,m) w) (w:World) :
  (Instr.sliceAt t (.slice a n c) lo hi' mx).run P w=.ok (.slice (if m=l then a else a.map (·.add (l*i.size))) (h-l) (m-l)) w:=by
 simp[Instr.sliceAt,Instr.slice,run_underlying hu,hb,A1d hi]
theorem E14(hS:Sim G s J w){t:TypeId}{x x' v:Value}{lo hi mx lo' hi' mx':Option Value}(h:slcV P t x lo hi mx s=some v)(hx:VR s.next J false x x')
  (hlo:VRo s.next J lo lo') (hhi:VRo s.next J hi hi') (hmx:VRo s.next J mx mx') :
  ∃v',VR s.next J false v v'/\∀w2,(Instr.sliceAt t x' lo' hi' mx').run P w2=.ok v' w2:=by
 unfold slcV at h;split at h
 ·-- a string
  rename_i b hu;cases hx.string_inv;split at h
  ·rename_i l hh h1 h2;split at h
   ·rename_i hc;cases h;have b1:=A49 h1 hlo (fun _=>⟨_,rfl⟩);have b2:=A49 h2 hhi (fun _=>⟨_,rfl⟩);cases mx' with
    | some y=>exact hmx.elim
    | none=>
     refine⟨_,.one (.string _),fun w2=>?_⟩;have hb:=A5p (P:=P) (isSlice:=false) (len:=b.size) (cap:=b.size) (mx:=none) (m:=b.size) b1 b2 rfl (by simp) hc.1 hc.2 (Nat.le_refl _) w2
     simp[Instr.sliceAt,Instr.slice,run_underlying hu,hb]
   ·cases h
  ·cases h
 ·-- an array's address
  rename_i n e a hu;obtain⟨hb,hs,rfl⟩:=hx.ptr_inv;split at h
  ·rename_i z l hh m hz h1 h2 h3;obtain⟨i,hi0,hsz⟩:=A7w hz;split at h
   ·rename_i hc;cases h;have b1:=A49 h1 hlo (fun _=>⟨_,rfl⟩);have b2:=A49 h2 hhi (fun _=>⟨_,rfl⟩);have b3:=A49 h3 hmx (fun _=>⟨_,rfl⟩);have hb':=fun w2=>A5p (P:=P) (isSlice:=false) (len:=n) (cap:=n) b1 b2 b3 (by rw[A6v hmx,A6v hhi];exact hc.1) hc.2.1 hc.2.2.1 hc.2.2.2.1 w2
    refine⟨.slice (some (if m=l then tr (J a.block) a else(tr (J a.block) a).add (l*i.size))) (hh-l) (m-l),.one (.slice hb rfl (by omega) (by omega) ?_ (.inl rfl)),fun w2=>?_⟩
    ·by_cases e:m=l
     ·left;omega
     ·right;rw[if_neg e,B5n,hsz]
    ·simp[Instr.sliceAt,run_underlying hu,Instr.sureAddr,hb',A1d hi0]
   ·cases h
  ·cases h
 ·-- nil
  rename_i e hu;obtain⟨_,_,rfl⟩:=hx.nilSlice_inv;split at h
  ·rename_i h1 h2 h3;split at h
   ·rename_i hc;cases h;obtain⟨z,hz⟩:=Option.isSome_iff_exists.1 hc.1;obtain⟨i,hi0,hsz⟩:=A7w hz;have b1:=A49 h1 hlo (fun _=>⟨_,rfl⟩);have b2:=A49 h2 hhi (fun _=>⟨_,rfl⟩);have b3:=A49 h3 hmx (fun _=>⟨_,rfl⟩);have hb':=fun w2=>A5p (P:=P) (isSlice:=true) (len:=0) (cap:=0) b1 b2 b3 (by rw[A6v hmx,A6v hhi];exact hc.2) (Nat.le_refl _) (Nat.le_refl _) (Nat.le_refl _) w2
    refine⟨_,.one .nilSlice,fun w2=>?_⟩;rw[A7u hu hi0 none 0 0 hb'];simp
   ·cases h
  ·cases h
 ·-- a slice
  rename_i e a n c hu;obtain⟨a',c',rfl,hb,hs,hl,hc',ha,hcap⟩:=hx.slice_inv;split at h
  ·rename_i z l hh hz h1 h2;obtain⟨i,hi0,hsz⟩:=A7w hz;have b1:=A49 h1 hlo (fun _=>⟨_,rfl⟩);have b2:=A49 h2 hhi (fun _=>⟨_,rfl⟩);have fin:∀(m q:Nat) (mx0:Option Value),mx'=mx0->Bd mx0 c' m->(mx0.isSome->hi'.isSome)->l<=hh->hh<=m->m<=c'->(m-l=q\/(q=top+(J a.block).w/\0<(J a.block).w/\z=(J a.block).w/\m=c'/\a.off+c'*z=(J a.block).ext))->
     ∃v',VR s.next J false (.slice (some ⟨a.block,a.off+l*z,none⟩) (hh-l) q) v'/\∀w2,(Instr.sliceAt t (.slice (some a') n c') lo' hi' mx').run P w2=.ok v' w2:=by
    rintro m q mx0 rfl b3 hsome g1 g2 g3 hq;have hb':=fun w2=>A5p (P:=P) (isSlice:=true) (len:=n) (cap:=c') b1 b2 b3 hsome g1 g2 g3 w2;refine⟨.slice (some (if m=l then a' else a'.add (l*i.size))) (hh-l) (m-l),.one (.slice hb rfl (by omega) (by omega) ?_ ?_),fun w2=>?_⟩
    ·by_cases e:m=l
     ·left;omega
     ·right;rcases ha with h0|h0
      ·omega
      ·rw[if_neg e,h0,B5n,hsz]
    ·rcases hq with hq|⟨q1,q2,q3,q4,q5⟩
     ·exact .inl hq.symm
     ·refine .inr ⟨q1,q2,?_⟩;show a.off+l*z+(m-l)*(J a.block).w=(J a.block).ext;rw[<-q3,<-q5,q4];have:c'*z=l*z+(c'-l)*z:=by rw[<-Nat.add_mul];congr 1;omega
      omega
    ·rw[A7u hu hi0 (some a') n c' hb'];by_cases e:m=l<;>simp[e]
   split at h
   ·rename_i hct;have hw:z=(J a.block).w/\0<(J a.block).w/\a.off+c'*(J a.block).w=(J a.block).ext:=by
     rcases hcap with h0|⟨h0,h3,h4⟩
     ·exfalso;unfold top at hct;omega
     ·exact⟨by unfold top at *;omega,h3,h4⟩
    obtain⟨hw1,hw2,hw3⟩:=hw;split at h
    ·rename_i hmx0;rw[Option.ite_none_right_eq_some]at h;obtain⟨hcond,h⟩:=h
     ·cases h;cases mx' with
      | some y=>exact hmx.elim
      | none=>
       have hle:hh<=c':=by
        rcases hcond.2 with h0|h0
        ·omega
        ·split at h0
         ·rename_i vs tail hrow;simp only[decide_eq_true_eq]at h0;have hR:=hS.obj _ _ hrow;have hx:=hR.1;have h5:a.off+hh*z<=a.off+c'*z:=by rw[hw1]at h0 ⊢;omega
          exact Nat.le_of_mul_le_mul_right (by omega:hh*z<=c'*z) (by omega)
         ·cases h0
       exact fin c' c none rfl rfl (by simp) hcond.1 hle (Nat.le_refl _) (.inr ⟨by unfold top at *;omega,hw2,hw1,rfl,by rw[hw1];exact hw3⟩)
    ·rename_i mv hmx0;split at h
     ·rename_i m h3;split at h
      ·rename_i hcond;cases h;have b3:=A49 h3 hmx (fun e=>by cases e)
       cases mx' with
       | none=>exact hmx.elim
       | some y=>exact fin m (m-l) (some y) rfl b3 (fun _=>by rw[A6v hhi];exact hcond.1) hcond.2.1 hcond.2.2.1 (by omega) (.inl rfl)
      ·cases h
     ·cases h
   ·split at h
    ·rename_i hct;have hcc:c=c':=by
      rcases hcap with h0|⟨h0,_⟩
      ·exact h0
      ·exfalso;unfold top at *;omega
     subst hcc;split at h
     ·rename_i m h3;split at h
      ·rename_i hcond;cases h;have b3:=A49 h3 hmx (fun _=>⟨_,rfl⟩);exact fin m (m-l) mx' rfl b3 (by rw[A6v hmx,A6v hhi];exact hcond.1) hcond.2.1 hcond.2.2.1 hcond.2.2.2 (.inl rfl)
      ·cases h
     ·cases h
    ·cases h
  ·cases h
 ·cases h
theorem C4g{n:Nat}{ρ ρ':Operand->Value}(hρ:∀x,VR n J false (ρ x) (ρ' x))(o:Option Operand):VRo n J (o.map ρ) (o.map ρ'):=by
 cases o with
 | none=>trivial
 | some x=>exact hρ x
theorem B4r{l:List Value}{acc b:ByteArray}(h:A7o? l acc=some b):(l=[]/\acc=b)\/∃n r,l=.int .u8 n::r/\A7o? r (acc.push (UInt8.ofNat n.toNat))=some b:=by
 unfold A7o? at h;split at h
 ·cases h;exact .inl ⟨rfl,rfl⟩
 ·exact .inr ⟨_,_,rfl,h⟩
 ·cases h
theorem D02{f:Value->ByteArray->Sem (ForInStep ByteArray)}(hf:∀n acc w,(f (.int .u8 n) acc).run P w=.ok (.yield (acc.push (UInt8.ofNat n.toNat))) w):∀{l:List Value} {acc b:ByteArray},A7o? l acc=some b->∀w,(forIn l acc f).run P w=.ok b w:=by
 intro l;induction l with
 | nil=>
  intro acc b h w;rcases B4r h with⟨_,rfl⟩|⟨n,r,e,_⟩
  ·simp
  ·cases e
 | cons x r ih=>
  intro acc b h w;rcases B4r h with⟨e,_⟩|⟨n,r',e,h'⟩
  ·cases e
  ·cases e;rw[List.forIn_cons,Sem.run_bind,hf];exact ih h' w
theorem C2e:∀{l:List Value} {acc b:ByteArray},A7o? l acc=some b->∀x∈l,∃n,x=.int .u8 n:=by
 intro l;induction l with
 | nil=>intro acc b h y hy;cases hy
 | cons x r ih=>
  intro acc b h y hy;rcases B4r h with⟨e,_⟩|⟨n,r',e,h'⟩
  ·cases e
  ·cases e;rcases List.mem_cons.1 hy with rfl|hy
   ·exact⟨n,rfl⟩
   ·exact ih h' y hy
theorem E4g(hS:Sim G s J w){x x' v:Value}(h:strV x s=some v)(hx:VR s.next J false x x'):VR s.next J false v v/\(∃a l c,x'=.slice a l c)/\∀w2,A55 w w2->(Conv.bytesToString x').run P w2=.ok v w2:=by
 unfold strV at h;split at h
 ·rename_i a l c;cases hcs:A0z 1 (.slice a l c) s with
  | none=>rw[hcs]at h;cases h
  | some cs=>
   rw[hcs]at h;cases hb:A7o? cs .empty with
   | none=>rw[Option.bind_some,hb]at h;cases h
   | some b=>
    rw[Option.bind_some,hb]at h;cases h;have key:∃a' c',x'=.slice a' l c'/\∀w2,A55 w w2->match a' with|none=>cs=[]|some a'=>(loadCells a' l).run P w2=.ok cs.toArray w2:=by
     cases a with
     | none=>
      obtain⟨rfl,rfl,rfl⟩:=hx.nilSlice_inv;simp[A0z]at hcs;exact⟨none,0,rfl,fun _ _=>hcs⟩
     | some a=>
      obtain⟨a',c',rfl,hb1,hs,hl,hc,ha,hcap⟩:=hx.slice_inv;refine⟨some a',c',rfl,fun w2 hw=>?_⟩;simp only[A0z]at hcs;split at hcs
      ·rename_i hl0;cases hcs;subst hl0;exact A58 (ys:=[]) (fun j u hu=>by simp at hu)
      ·rename_i hl0;split at hcs
       ·rename_i vs tail hrow;split at hcs
        ·rename_i hle;cases hcs;obtain⟨ys,h1,h2,h3⟩:=hS.cells hrow hle;have ha':a'=tr (J a.block) a:=ha.resolve_left (by omega)
         have hlen:((vs.drop a.off).take (l*1)).length=l:=by simp;omega
         have hys:ys=(vs.drop a.off).take (l*1):=by
          apply List.ext_getElem
          ·rw[hlen];omega
          ·intro j hj1 hj2;obtain⟨n,hn⟩:=C2e hb _ (List.getElem_mem hj2);have:=h2 j _ _ (List.getElem?_eq_getElem hj2) (List.getElem?_eq_getElem hj1);rw[hn]at this ⊢;exact this.int_inv
         subst hys;have:=A58 (P:=P) (w:=w2) (a:=a') (ys:=(vs.drop a.off).take (l*1)) (fun j u hu=>by rw[ha'];exact h3 w2 hw j u hu)
         rwa [hlen]at this
        ·cases hcs
       ·cases hcs
    obtain⟨a',c',rfl,hrun⟩:=key;refine⟨.one (.string _),⟨_,_,_,rfl⟩,fun w2 hw=>?_⟩;have hr:=hrun w2 hw;cases a' with
    | none=>
     subst hr;simp only[A7o?,Option.some.injEq]at hb;subst hb;simp[Conv.bytesToString]
    | some a'=>
     simp only[Conv.bytesToString,Sem.run_bind,hr,Result.andThen_ok];rw[List.forIn_toArray,D02 (fun n acc w=>by simp) hb]
     simp
 ·cases h
theorem C5z(hS:Sim G s J w){o:Oper}{ρ ρ':Operand->Value}{v:Value}(hc:cls o.op=.r)(hρ:∀x,VR s.next J false (ρ x) (ρ' x))(h:C9q P o.op ρ s=some v) :
  ∃v',VR s.next J false v v'/\∀w2,A55 w w2->(execOp ρ' o).run P w2=.ok (.value v') w2:=by
 obtain⟨dst,op,type,pos,after,guard⟩:=o;have lift:∀{x:Sem Value} {v':Value},(∀w2,A55 w w2->x.run P w2=.ok v' w2)->∀w2,A55 w w2->(do pure (Next.value (<-x)):Sem Next).run P w2=.ok (.value v') w2:=fun hx w2 hw=>by simp[hx w2 hw]
 cases op<;>simp only[cls]at hc<;>simp only[C9q]at h<;>simp only[execOp]
 case load t a=>obtain⟨v',h1,h2⟩:=C2i hS h (hρ a);exact⟨v',h1,lift h2⟩
 case convert src dst x=>
  unfold C43 at h;split at h
  ·rename_i ht;obtain⟨h1,⟨a1,l1,c1,hx1⟩,h2⟩:=E4g (P:=P) hS h (hρ x);rw[hx1]at h2 ⊢;refine⟨v,h1,lift fun w2 hw=>?_⟩;unfold A68 at ht;split at ht
   ·rename_i e hs hd;split at ht
    ·rename_i he;simp only[convert,run_underlying hs,run_underlying hd,run_underlying he,Sem.run_bind,Result.andThen_ok];exact h2 w2 hw
    ·cases ht
   ·cases ht
  ·obtain⟨h1,h2⟩:=D8c h (hρ x);exact⟨v,h1,lift fun w2 _=>h2 w2⟩
 case lookup t x i ok=>obtain⟨v',h1,h2⟩:=D41 hS h (hρ x) (hρ i);exact⟨v',h1,lift h2⟩
 case slice t x lo hi mx=>
  obtain⟨v',h1,h2⟩:=E14 hS h (hρ x) (C4g hρ lo) (C4g hρ hi) (C4g hρ mx);exact⟨v',h1,lift fun w2 _=>h2 w2⟩
 case call c=>
  split at h
  ·rename_i x t hce ha ht;obtain⟨h1,h2⟩:=E15 hS h (hρ x) type;refine⟨v,h1,fun w2 hw=>?_⟩;have ha':c.args=#[x]:=by rw[<-Array.toList_inj];simpa using ha
   have ht':c.argTypes=#[t]:=by rw[<-Array.toList_inj];simpa using ht
   simp[resolve,hce,invoke,builtin,ha',ht',h2 w2 hw]
  ·cases h
 all_goals (cases hc)
end Go.Zz
namespace Go.Zz
open Go
variable {P : Program} {G : Nat} {s : St} {J : Nat → Plc} {w : World}
def NewR(n:Nat)(J:Nat->Plc):AObj->Obj->Prop
 | .cells vs tail,o=>tail=tail/\∃cs e,o=.cells cs e/\VRa n J vs.toArray cs
 | .map es bs c,o=>es=[]/\bs=[]/\c=0/\o=.map #[] 0
 | .iter r since seen stepped,o=>∃r',o=.mapIter r' since seen.toArray stepped/\((r=none/\r'=none)\/∃q,r=some q/\q<n/\r'=some (J q).cb)
 | .loop A ps assign body st pend,o=>∃L,o=.loop L/\L.params=ps/\L.assign=assign/\L.body=body/\L.state=st/\L.pending=pend/\A.length=L.tmps.size/\
   (∀(i:Nat) (x y:Value),A[i]?=some x->L.tmps[i]?=some y->VR n J false x y)
def A8t:AObj->Nat
 | .cells vs _=>vs.length
 | _=>0
theorem VRa.mono{n n':Nat}{J J':Nat->Plc}(hn:n<=n')(hJ:∀b,b<n->J' b=J b){a b:Array Value}(h:VRa n J a b):VRa n' J' a b:=
 ⟨h.1,fun i x y hx hy=>(h.2 i x y hx hy).mono hn hJ⟩
theorem NewR.mono{n n':Nat}{J J':Nat->Plc}(hn:n<=n')(hJ:∀b,b<n->J' b=J b){x:AObj}{o:Obj}(h:NewR n J x o):NewR n' J' x o:=by
 cases x with
 | cells vs tail=>obtain⟨h1,cs,e,h2,h3⟩:=h;exact⟨h1,cs,e,h2,h3.mono hn hJ⟩
 | map es=>exact h
 | iter r since seen stepped=>
  obtain⟨r',rfl,hr⟩:=h;exact⟨r',rfl,hr.imp id fun⟨q,h1,h2,h3⟩=>⟨q,h1,Nat.lt_of_lt_of_le h2 hn,by rw[hJ q h2];exact h3⟩⟩
 | loop A ps assign body st pend=>
  obtain⟨L,ho,h1,h2,h3,h4,h5,h6,h7⟩:=h;exact⟨L,ho,h1,h2,h3,h4,h5,h6,fun i x y hx hy=>(h7 i x y hx hy).mono hn hJ⟩
theorem NewR.objR{n:Nat}{m:Plc}{x:AObj}{o:Obj}(h:NewR n J x o)(hm:m.k=0)(he:m.ext=A8t x)(hw:w.heap[m.cb]?=some o):ObjR n J m w x:=by
 cases x with
 | cells vs tail=>
  obtain⟨h1,cs,e,rfl,hs,hr⟩:=h;have he':m.ext=vs.length:=he;have hs':vs.length=cs.size:=by simpa using hs
  have hall:∀(i:Nat) (x:Value),vs[i]?=some x->∃y,cs[m.k+i]?=some y/\VR n J true x y:=fun i x hx=>by
   have hi:i<cs.size:=by rw[<-hs'];exact(List.getElem?_eq_some_iff.1 hx).1
   have hg:=Array.getElem?_eq_getElem (xs:=cs) (i:=i) hi;exact⟨_,by rw[hm,Nat.zero_add];exact hg,hr i x _ (by simpa using hx) hg⟩
  refine⟨by omega,fun _=>he'.symm,cs,e,(0,0),hw,by omega,hall,fun i hi=>?_,fun i _ h=>by omega,fun _=>rfl⟩
  obtain⟨y,hy,hr'⟩:=hall i _ (List.getElem?_eq_getElem (by omega))
  exact⟨y,hy,hr'.one_right⟩
 | map es=>
  obtain⟨rfl,rfl,rfl,rfl⟩:=h;exact⟨#[],hw,rfl,rfl,fun i x y hx=>by simp at hx,fun i y hy=>by simp at hy,fun i j y z _ hy=>by simp at hy⟩
 | iter r since seen stepped=>
  obtain⟨r',rfl,hr⟩:=h;exact⟨hm,r',hw,hr⟩
 | loop A ps assign body st pend=>
  obtain⟨L,rfl,h1,h2,h3,h4,h5,h6,h7⟩:=h;exact⟨L,hw,h1,h2,h3,h4,h5,h6,h7⟩
theorem Sim.install(h:Sim G s J w){x:AObj}{o:Obj}{blk:Nat}(hw:w.heap[blk]?=some o)(hfree:∀k,¬A72 s J blk k)(hx:NewR s.next J x o) :
  Sim G (s.alloc x) (putJ J s.next ⟨blk,0,A8t x,0⟩) w:=by
 have hJ:∀b,b<s.next->putJ J s.next ⟨blk,0,A8t x,0⟩ b=J b:=fun b hb=>by simp[putJ,Nat.ne_of_lt hb]
 refine⟨?_,?_,?_,?_⟩
 ·intro b y hy;simp only[St.alloc]at hy ⊢;split at hy
  ·omega
  ·have:=h.live b y hy;omega
 ·intro b y hy;simp only[St.alloc]at hy ⊢;split at hy
  ·rename_i hb;cases hy;subst hb;simp only[putJ,if_true];exact(hx.mono (Nat.le_succ _) hJ).objR rfl rfl hw
  ·rw[hJ b (h.live b y hy)];exact(h.obj b y hy).mono (Nat.le_succ _) hJ rfl
 ·intro b b' y y' cb k hne hy hy' ho ho';simp only[St.alloc]at hy hy';split at hy
  ·rename_i hb;split at hy'
   ·omega
   ·rw[hJ b' (h.live b' y' hy')]at ho';have h1:=ho.cb;simp[putJ,hb]at h1;subst h1;exact hfree k ⟨b',y',hy',ho'⟩
  ·rw[hJ b (h.live b y hy)]at ho;split at hy'
   ·rename_i hb;have h2:=ho'.cb;simp[putJ,hb]at h2;subst h2;exact hfree k ⟨b,y,hy,ho⟩
   ·rw[hJ b' (h.live b' y' hy')]at ho';exact h.apart b b' y y' cb k hne hy hy' ho ho'
 ·intro g hg;obtain⟨h1,h2,h3⟩:=h.glob g hg;exact⟨by simp[St.alloc];omega,by rw[hJ g h1];exact h2,by rw[hJ g h1];exact h3⟩
theorem Step.install{s0:St}{J0:Nat->Plc}{w0:World}(hl:∀b x,s.heap b=some x->b<s.next)(h:Step s0 J0 w0 s J w){x:AObj}{m:Plc}(hb:w0.heap.size<=m.cb) :
  Step s0 J0 w0 (s.alloc x) (putJ J s.next m) w:=by
 have hJ:∀b,b<s.next->putJ J s.next m b=J b:=fun b hb=>by simp[putJ,Nat.ne_of_lt hb]
 refine⟨by simp[St.alloc];have:=h.le;omega,fun b hb'=>(hJ b (Nat.lt_of_lt_of_le hb' h.le)).trans (h.ext b hb'),h.size,h.os,h.out,h.tape,?_,h.row,h.other,h.loops⟩
 rintro cb o hcb hn ⟨b,y,hy,ho⟩;simp only[St.alloc]at hy;split at hy
 ·rename_i he;subst he;have:=ho.cb;simp[putJ]at this;omega
 ·exact h.free cb o hcb hn ⟨b,y,hy,by rwa [hJ b (hl b y hy)]at ho⟩
theorem A51(w:World)(o:Obj):A55 w (w.alloc o):=fun cb hcb=>by
 simp only[World.alloc,Array.getElem?_push];simp[Nat.ne_of_lt hcb]
theorem Step.holds{s0:St}{J0:Nat->Plc}{w0 w2:World}(h:Step s0 J0 w0 s J w)(h2:A55 w w2)(hs:w.heap.size<=w2.heap.size)(ho:w2.os=w.os)(hu:w2.output=w.output)(ht:w2.tape=w.tape/\w.drawn<=w2.drawn) :
  Step s0 J0 w0 s J w2:=
 ⟨h.le,h.ext,Nat.le_trans h.size hs,ho.trans h.os,hu.trans h.out,⟨ht.1.trans h.tape.1,Nat.le_trans h.tape.2 ht.2⟩,h.free,
  fun cb c e f hc=>let ⟨c',h1,h3⟩:=h.row cb c e f hc;⟨c',h2.at h1,h3⟩,fun cb x hx hn hf=>h2.at (h.other cb x hx hn hf),fun cb r hc=>let ⟨r',h1⟩:=h.loops cb r hc;⟨r',h2.at h1⟩⟩
theorem Step.alloc{s0:St}{J0:Nat->Plc}{w0:World}(h:Step s0 J0 w0 s J w)(o:Obj):Step s0 J0 w0 s J (w.alloc o):=
 h.holds (A51 w o) (by simp) rfl rfl ⟨rfl,Nat.le_refl _⟩
def NewV.Ok:NewV->Prop
 | .slc l c=>l<=c/\c<=9223372036854775807
 | _=>True
theorem NewV.rel{x:AObj}{nk:NewV}(hk:nk.Ok)(blk:Nat) :
  VR (s.next+1) (putJ J s.next ⟨blk,0,A8t x,0⟩) false (nk.val s.next) (nk.val blk):=by
 have ht:(⟨blk,0,none⟩:Addr)=tr (putJ J s.next ⟨blk,0,A8t x,0⟩ s.next) ⟨s.next,0,none⟩:=by simp[tr,putJ]
 cases nk with
 | ptr=>
  simp only[NewV.val];rw[ht];exact .one (.ptr (a:=⟨s.next,0,none⟩) (Nat.lt_succ_self _) rfl)
 | slc l c=>exact .one (.slice (a:=⟨s.next,0,none⟩) (Nat.lt_succ_self _) rfl hk.1 hk.2 (.inr ht) (.inl rfl))
 | map=>
  have h1:blk=(putJ J s.next ⟨blk,0,A8t x,0⟩ s.next).cb:=by simp[putJ]
  simp only[NewV.val]
  conv=>arg 5;rw[h1]
  exact .one (.map (Nat.lt_succ_self _))
theorem A85{n:Nat}{z:List Value}{zc:Array Value}(hz:zc.toList=z)(hp:zc.all plain=true)(m:Nat):VRa n J (A2q z m).toArray (madeCells zc m):=by
 refine⟨by simp[A2q,madeCells],fun i x y hx hy=>?_⟩
 simp only[A2q,List.getElem?_toArray,List.getElem?_map]at hx;simp only[madeCells,Array.getElem?_map]at hy;have hi:i<m:=by
  cases hr:(List.range m)[i]? with
  | none=>rw[hr]at hx;cases hx
  | some j=>have:=(List.getElem?_eq_some_iff.1 hr).1;simpa using this
 simp[hi]at hx hy;subst hz;rcases Nat.eq_zero_or_pos zc.size with h0|h0
 ·have:zc=#[]:=by simpa using h0
  subst this;simp at hx hy;rw[<-hx,<-hy];exact .dc1 (by rfl)
 ·have hlt:i%zc.size<zc.size:=Nat.mod_lt _ h0;simp[hlt]at hx hy;rw[<-hx,<-hy];exact .plain (Array.all_eq_true'.1 hp _ (Array.getElem_mem hlt))
theorem A3b{t e:TypeId}{n b:Nat}{z:List Value}(h:A0e P t=some (e,n,b,z)):P.underlying t=some (.slice e)/\∃i v,P.info? e=some i/\i.size=n/\i.bytes=b/\i.zero=some v/\
  v.cells.all plain=true/\v.cells.toList=z/\z.length=n/\0<n:=by
 unfold A0e at h;split at h
 ·rename_i e' hu;split at h
  ·rename_i i z' hi hz;split at h
   ·rename_i hc;cases h;obtain⟨i',v,hi',hzv,hd,hp,hl⟩:=B29 hz;rw[hi]at hi';cases hi';exact⟨hu,i,v,hi,rfl,rfl,hzv,hp,hl,hc.1,hc.2⟩
   ·cases h
  ·cases h
 ·cases h
theorem D8o{n:Nat}{o:Oper}{ρ ρ':Operand->Value}{x:AObj}{nk:NewV}(hc:cls o.op=.a)(hρ:∀x,VR n J false (ρ x) (ρ' x))(h:newA P o.op ρ=some (x,nk)) :
  nk.Ok/\∃ob,NewR n J x ob/\∀w:World,(execOp ρ' o).run P w=.ok (.value (nk.val w.heap.size)) (w.alloc ob):=by
 obtain⟨dst,op,type,pos,after,guard⟩:=o;cases op<;>simp only[cls]at hc<;>simp only[newA]at h<;>simp only[execOp]
 case alloc t=>
  cases hz:A2r P t with
  | none=>rw[hz]at h;cases h
  | some z=>
   rw[hz]at h;simp only[B40,Option.map_some,Option.some.injEq,Prod.mk.injEq]at h;obtain⟨rfl,rfl⟩:=h;obtain⟨i,v,hi,hzv,hd,hp,hl⟩:=B29 hz;refine⟨trivial,.cells v.cells t,⟨rfl,v.cells,t,rfl,?_⟩,fun w=>by simp[Instr.alloc,A1a hi hzv,newVar,newRow,NewV.val]⟩
   rw[<-hl];simpa using VRa.plain hp
 case box t a=>
  unfold boxN at h;split at h
  ·rename_i hd;cases h;obtain⟨h1,h2⟩:=(hρ a).cells hd;exact⟨trivial,.cells (ρ' a).cells t,⟨rfl,_,t,rfl,by simpa using⟨h1,h2⟩⟩,fun w=>by simp[Instr.box,newVar,newRow,NewV.val]⟩
  ·cases h
 case buildSlice t len parts=>
  rw[D5a]at h;unfold bslN at h;split at h
  ·rename_i e m b z hs;obtain⟨hu,i,v,hi,hsz,hb,hzv,hp,hl,hzl,hpos⟩:=A3b hs;split at h
   ·rename_i hle;cases hf:A41 (fun i=>some (i*m,m)) (A2q z (len*m)) (parts.map fun p=>(p.1,ρ p.2))with
    | none=>rw[hf]at h;cases h
    | some l=>
     rw[hf]at h;cases h;obtain⟨r',h1,h2⟩:=B46 (n:=n) (J:=J) (ps':=parts.map fun(i,x)=>(i,ρ' x)) hf (by simp) (fun i x y hx hy=>C2r hρ i x y hx hy) (A85 (J:=J) (n:=n) hl hp (len*m))
     have hlen:len<=len*m:=Nat.le_mul_of_pos_right _ hpos;refine⟨⟨Nat.le_refl _,by omega⟩,.cells r' e,⟨rfl,r',e,rfl,h2⟩,fun w=>?_⟩
     have hnot:¬(16777216<len*m):=by omega
     have hps:(parts.map fun(i,x)=>(i,ρ' x)).toList=List.map (fun x=>(x.fst,ρ' x.snd)) parts.toList:=by simp
     rw[hps]at h1;by_cases h0:len*m=0
     ·have e0:Array.map (fun _=>(default:Value)) (Array.range (len*m))=madeCells v.cells (len*m):=by rw[h0];simp[madeCells]
      rw[<-e0]at h1;simp only[h0]at h1;simp[Instr.buildSlice,run_underlying hu,A1d hi,hsz,h0,h1,newRow,NewV.val]
     ·have e0:Array.map (fun x=>v.cells[x%v.cells.size]!) (Array.range (len*m))=madeCells v.cells (len*m):=rfl;rw[<-e0]at h1;simp[Instr.buildSlice,run_underlying hu,A1d hi,hsz,hnot,h0,A1a hi hzv,h1,newRow,NewV.val]
   ·cases h
  ·cases h
 case makeMap t r=>
  unfold mapN at h;split at h
  ·rename_i hm;have hu:∃k e,P.underlying t=some (.map k e):=by
    unfold A22 at hm;split at hm
    ·exact⟨_,_,by assumption⟩
    ·cases hm
   obtain⟨k,e,hu⟩:=hu;cases r with
   | none=>cases h;exact⟨trivial,.map #[] 0,⟨rfl,rfl,rfl,rfl⟩,fun w=>by simp[Instr.makeMap,NewV.val]⟩
   | some r=>
    simp only[Option.map_some]at h;cases hi:B0w? (ρ r)with
    | none=>rw[hi]at h;cases h
    | some q=>
     rw[hi]at h;cases h;have:∃k,ρ r=.int k q:=by cases hr:ρ r<;>rw[hr]at hi<;>simp[B0w?]at hi;rw[hi];exact⟨_,rfl⟩
     obtain⟨kk,hr⟩:=this;have hr':=hρ r;rw[hr]at hr';refine⟨trivial,.map #[] 0,⟨rfl,rfl,rfl,rfl⟩,fun w=>?_⟩;simp[Instr.makeMap,run_underlying hu,hr'.int_inv,asInt,asIntOf,NewV.val]
  ·cases h
 case makeSlice t l c=>
  unfold mslN at h;split at h
  ·rename_i e m b z l' c' hs hl' hc';obtain⟨hu,i,v,hi,hsz,hb,hzv,hp,hl,hzl,hpos⟩:=A3b hs;split at h
   ·rename_i hcond;cases h;have hlv:∃k,ρ l=.int k l':=by cases hr:ρ l<;>rw[hr]at hl'<;>simp[B0w?]at hl';rw[hl'];exact⟨_,rfl⟩
    have hcv:∃k,ρ c=.int k c':=by cases hr:ρ c<;>rw[hr]at hc'<;>simp[B0w?]at hc';rw[hc'];exact⟨_,rfl⟩
    obtain⟨kl,e1⟩:=hlv;obtain⟨kc,e2⟩:=hcv;have r1:=hρ l;have r2:=hρ c;rw[e1]at r1;rw[e2]at r2;refine⟨⟨by omega,by omega⟩,.cells (madeCells v.cells (c'.toNat*m)) e,⟨rfl,_,e,rfl,A85 hl hp _⟩,fun w=>?_⟩
    rw[r1.int_inv,r2.int_inv];have hbc:(i.bytes:Int)*c'<=281474976710656:=by
     have:((b*c'.toNat:Nat):Int)<=140737488355328:=by omega
     rw[Int.natCast_mul,Int.toNat_of_nonneg (by omega),<-hb]at this
     omega
    have hr:=run_make (P:=P) w t e i v hu hi hzv kl kc l' c' hcond.1 hcond.2.1 hbc (by omega)
    simp[hr,NewV.val,hsz]
   ·cases h
  ·cases h
 all_goals (first|(cases h;done)|(cases hc;done))
end Go.Zz
