import Derived.Test.YtnghaapdoanabaaGreatDoorTb
set_option linter.all false
namespace Go.Zz
open Go
theorem A0j{P:Program}{t e:TypeId}{a:Addr}(ht:P.underlying t=some (.pointer e)):binV P .eql t (.pointer (some a)) (.pointer none)=some (.bool false):=by simp[binV,eqOp,ht]
theorem B2w{P:Program}{t e:TypeId}{a:Addr}(ht:P.underlying t=some (.pointer e)):binV P .neq t (.pointer (some a)) (.pointer none)=some (.bool true):=by simp[binV,eqOp,ht]
theorem B0a{P:Program}{t e:TypeId}(ht:P.underlying t=some (.pointer e)):binV P .eql t (.pointer none) (.pointer none)=some (.bool true):=by simp[binV,eqOp,ht]
theorem C6i{a b:Int}(h0:0<=a)(h1:a<9223372036854775808)(hb:0<=b):IntKind.i64.wrap (a/b)=a/b:=by
 have h2:=Int.ediv_nonneg h0 hb;have h3:=Int.ediv_le_self b h0;exact wrap_i64 (by omega) (by omega)
theorem B14.old{n0:Nat}{J:(Nat->Prop)->St->Prop}(hL:B14 n0 J){M:Nat->Prop}{S S':St}(h:J M S)(o:Old S S')(hn:n0<=S.next):J M S':=
 hL.st h o.le (fun b hb=>o.eq (hb.elim (fun h=>by omega) (fun hm=>(hL.lt h hm).2)))
theorem F26{α:Type}{xs:List α}{i:Nat}{g:α->α}{p:α->Bool}(hi:i<xs.length)(h1:p xs[i]=true)(h2:∀j (hj:j<xs.length),j≠i->p xs[j]=false):xs.set i (g xs[i])=xs.map fun x=>if p x then g x else x:=by
 apply List.ext_getElem
 ·simp
 ·intro j h3 h4;have hj:j<xs.length:=by simpa using h3
  rw[List.getElem_set,List.getElem_map];by_cases e:i=j
  ·subst e;simp[h1]
  ·rw[if_neg e,h2 j hj (fun e'=>e e'.symm)];simp
theorem B3v{α:Type}{xs:List α}{i:Nat}{p:α->Bool}(hi:i<xs.length)(h1:p xs[i]=false)(h2:∀j (hj:j<xs.length),j≠i->p xs[j]=true):xs.take i++xs.drop (i+1)=xs.filter p:=by
 have e1:(xs.take i).filter p=xs.take i:=by
  rw[List.filter_eq_self];intro x hx;obtain⟨j,hj,rfl⟩:=List.getElem_of_mem hx;simp at hj;rw[List.getElem_take];exact h2 j (by omega) (by omega)
 have e2:(xs.drop (i+1)).filter p=xs.drop (i+1):=by
  rw[List.filter_eq_self];intro x hx;obtain⟨j,hj,rfl⟩:=List.getElem_of_mem hx;simp at hj;rw[List.getElem_drop];exact h2 _ (by omega) (by omega)
 conv=>rhs;rw[<-List.take_append_drop i xs,List.drop_eq_getElem_cons hi,List.filter_append,List.filter_cons,h1,e1]
 simp[e2]
@[simp]theorem fillV_eq(place:Nat->Option (Nat×Nat))(zero:List Value)(ps:List (Nat×Value)):A41 place zero ps.toArray=if ps.all (fun p=>data p.2)then(Instr.fill place zero.toArray ps).map (·.toList)else none:=by
 unfold A41;rw[show ps.toArray.all (fun p=>data p.2)=ps.all (fun p=>data p.2)from List.all_toArray]
attribute [simp] Instr.fill
structure Fd(s S:St)(o o':Nat->Nat)(c:Nat->Prop):Prop where
 chg:Chg s S (fun b=>c (o b))
 col:∀{b},b<s.next->o' b=o b
theorem Fd.refl{s:St}{o:Nat->Nat}{c:Nat->Prop}:Fd s s o o c:=⟨.refl,fun _=>rfl⟩
theorem Fd.trans{s S S':St}{o o' o'':Nat->Nat}{c:Nat->Prop}(h:Fd s S o o' c)(g:Fd S S' o' o'' c):Fd s S' o o'' c:=
 ⟨h.chg.trans g.chg (fun b hb=>by
  rcases Nat.lt_or_ge b s.next with e|e
  ·rw[h.col e]at hb;exact .inl hb
  ·exact .inr e),fun hb=>(g.col (Nat.lt_of_lt_of_le hb h.chg.le)).trans (h.col hb)⟩
theorem Fd.mono{s S:St}{o o':Nat->Nat}{c d:Nat->Prop}(h:Fd s S o o' c)(hd:∀x,c x->d x):Fd s S o o' d:=⟨h.chg.mono (fun _ hb=>hd _ hb),h.col⟩
theorem Old.fd{s S:St}{o:Nat->Nat}{c:Nat->Prop}(h:Old s S):Fd s S o o c:=⟨h.chg,fun _=>rfl⟩
def tint(o:Nat->Nat)(n c:Nat):Nat->Nat:=fun b=>if n<=b then c else o b
theorem Old.tint{s S:St}{o:Nat->Nat}{c:Nat->Prop}{k:Nat}(h:Old s S):Fd s S o (tint o s.next k) c:=⟨h.chg,fun hb=>if_neg (by omega)⟩
theorem Chg.tint{s S:St}{o:Nat->Nat}{M c:Nat->Prop}{k:Nat}(h:Chg s S M)(hM:∀b,b<s.next->M b->c (o b)):Fd s S o (tint o s.next k) c:=
 ⟨⟨h.le,fun hb hn=>h.eq hb (fun hm=>hn (hM _ hb hm))⟩,fun hb=>if_neg (by omega)⟩
theorem A0d{o:Nat->Nat}{n c b:Nat}(h:n<=b):tint o n c b=c:=if_pos h
theorem A7c{o:Nat->Nat}{n c b:Nat}(h:b<n):tint o n c b=o b:=if_neg (by omega)
theorem Blk.fd{s S:St}{o o':Nat->Nat}{c:Nat->Prop}{b:Nat}{vs:List Value}(h:Blk s b vs)(f:Fd s S o o' c)(hc:¬c (o b)):Blk S b vs:=h.chg f.chg hc
section
variable {α : Type} {w : Nat} {E : Enc α w} {xs : List α} {s : St} {b : Nat}
theorem Blk.at_(h:Blk s b (E.row xs)):E.At s b 0 xs:=⟨[],[],_,by simpa using h.eq,rfl⟩
theorem Blk.fld(h:Blk s b (E.row xs)){z:α}{i k n:Nat}(hi:i<xs.length)(hk:k<w):A04 (some (false,n)) (.pointer (some ⟨b,i*w+k,none⟩)) s=(E.cells (xs.getD i z))[k]?:=by
 have:=h.at_.fld (n:=n) hi hk;rw[Nat.zero_add]at this;rw[this,List.getD_eq_getElem?_getD,List.getElem?_eq_getElem hi];rfl
theorem C8u{z:α}{q:IntKind}{j:Int}{l:Nat}(hl:l=xs.length)(h0:0<=j)(h1:j<l):B3l false (some (some l,true,w)) (.agg (E.row xs).toArray) (.int q j)=some (.agg (E.cells (xs.getD j.toNat z)).toArray):=by
 subst hl;have hi:j.toNat<xs.length:=by omega
 have hm:j.toNat*w+w<=xs.length*w:=by rw[<-Nat.succ_mul];exact Nat.mul_le_mul_right w hi
 have e:((E.row xs).drop (j.toNat*w)).take w=E.cells xs[j.toNat]:=by
  rw[Enc.row_drop (by omega),List.drop_eq_getElem_cons hi,Enc.row_cons,List.take_append_of_le_length (by simp)]
  exact List.take_of_length_le (by simp)
 have e2:((E.row xs).toArray.extract (j.toNat*w) (j.toNat*w+w))=(E.cells xs[j.toNat]).toArray:=by
  rw[<-e];simp[List.extract_toArray,List.extract_eq_take_drop]
 simp only[B3l,B6l];rw[if_pos ⟨h0,h1⟩,if_pos (by simp;omega),if_pos trivial,e2,List.getD_eq_getElem?_getD,List.getElem?_eq_getElem hi];rfl
end
def Stab(y:Nat)(R:(Nat->Prop)->St->Prop):Prop:=∀{M S S'},R M S->S.next<=S'.next->(∀b,b<y\/M b->S'.heap b=S.heap b)->R M S'
structure JX(s1:St)(rd:AObj)(c:Nat->Prop)(R:(Nat->Prop)->St->Prop)(M:Nat->Prop)(S:St):Prop where
 inv:R M S
 ready:S.heap s1.next=some rd
 eq:∀b,b<s1.next->¬c b->S.heap b=s1.heap b
 le:s1.next<S.next
 lt:∀b,M b->s1.next<b/\b<S.next
section
variable {s1 S : St} {rd bsy : AObj} {c : Nat → Prop} {R R' : (Nat → Prop) → St → Prop} {M : Nat → Prop} {D : (Nat → Prop) → St → Prop}
theorem JX.looper(hR:Stab s1.next R):B14 (s1.next+1) (JX s1 rd c R) where
 lt:=fun h hb=>h.lt _ hb
 st:=fun h hn he=>⟨hR h.inv hn (fun b hb=>he b (hb.imp (fun e=>by omega) id)),(he _ (.inl (by omega))).trans h.ready,fun b hb hc=>(he b (.inl (by omega))).trans (h.eq b hb hc),Nat.lt_of_lt_of_le h.le hn,fun b hb=>⟨(h.lt b hb).1,Nat.lt_of_lt_of_le (h.lt b hb).2 hn⟩⟩
theorem JX.start(hR:Stab s1.next R)(h:R (fun _=>False) s1):JX s1 rd c R (fun _=>False) (s1.alloc rd):=
 ⟨hR h (by simp) (fun b hb=>St.alloc_old (hb.elim id False.elim)),by simp,fun b hb _=>St.alloc_old hb,by simp,fun _ h=>h.elim⟩
def Body(s1:St)(bsy rd:AObj)(c:Nat->Prop)(R R':(Nat->Prop)->St->Prop)(B:Post->St->Prop):Prop:=
 ∀(M:Nat->Prop) (S:St) (Q:Post),R M S->Chg s1 S c->s1.next<S.next->(∀b,M b->s1.next<b/\b<S.next)->
  (∀M' S',R' M' S'->Chg S S' (fun b=>b<s1.next/\c b\/M b)->(∀b,M' b->M b\/S.next<=b/\b<S'.next)->S'.heap s1.next=some bsy/\Q (.bool true) (S'.put s1.next rd))->B Q S
theorem JX.round{C:A33}{args:List Value}{B:Post->St->Prop}(hR:Stab s1.next R)(hR':Stab s1.next R')
  (hY:∀Q s',s1.next<s'.next->s'.heap s1.next=some rd->(s'.heap s1.next=some rd/\B Q (s'.put s1.next bsy))->C (tok s1.next) args Q s') (hB:Body s1 bsy rd c R R' B) :
  B6u C s1.next (s1.next+1) args (JX s1 rd c R) (JX s1 rd c R') D:=by
 intro M S Q hJ hgo _;refine hY Q S hJ.le hJ.ready ⟨hJ.ready,hB M _ Q (hR hJ.inv (by simp) (fun b hb=>St.put_other (fun e=>?_))) ⟨by simpa using Nat.le_of_lt hJ.le,fun {b} hb hc=>?_⟩ (by simpa using hJ.le) (fun b hb=>by simpa using hJ.lt b hb) fun M' S' h1 h2 h3=>?_⟩
 ·subst e;rcases hb with h|h
  ·omega
  ·have:=hJ.lt _ h;omega
 ·rw[St.put_other (by omega)];exact hJ.eq b hb hc
 ·have hle:=h2.le;simp only[St.put_next]at hle h3;have hM':∀b,M' b->s1.next<b/\b<S'.next:=fun b hb=>by
   rcases h3 b hb with e|e
   ·have:=hJ.lt b e;omega
   ·have:=hJ.le;omega
  refine⟨(h2.eq (by simpa using hJ.le) (fun e=>e.elim (fun e=>by omega) (fun e=>by have:=hJ.lt _ e;omega))).trans St.put_self,hgo M' _ ⟨hR' h1 (by simp) (fun b hb=>St.put_other (fun e=>?_)),St.put_self,fun b hb hc=>?_,?_,fun b hb=>by simpa using hM' b hb⟩ ⟨by simpa using hle,fun b hb hlt hm=>?_,fun b hb=>?_⟩⟩
  ·subst e;rcases hb with h|h
   ·omega
   ·have:=hM' _ h;omega
  ·have:=hJ.le;rw[St.put_other (by omega),h2.eq (by simp;omega) (fun e=>e.elim (fun e=>hc e.2) (fun e=>by have:=hJ.lt _ e;omega)),St.put_other (by omega)]
   exact hJ.eq b hb hc
  ·have:=hJ.le;simp;omega
  ·rw[St.put_other (by omega),h2.eq (by simpa using hlt) (fun e=>e.elim (fun e=>by omega) hm),St.put_other (by omega)]
  ·exact(h3 b hb).imp id (fun e=>e.1)
theorem JX.done{L:List Value}{ps:Array Tmp}{aC bd:Code}{K:A0l}{A:Fr}(h:JX s1 (.loop L ps aC bd .ready none) c R M S)(hR:Stab s1.next R)
  (hk:∀S',R M S'->Chg s1 S' c->(∀b,M b->s1.next<b/\b<S'.next)->K .normal A S'):rfK s1.next K A S:=by
 refine A74 h.ready (hk _ (hR h.inv (by simp) (fun b hb=>St.put_other (fun e=>?_))) ⟨by simpa using Nat.le_of_lt h.le,fun {b} hb hc=>?_⟩ (fun b hb=>by simpa using h.lt b hb))
 ·subst e;rcases hb with h'|h'
  ·omega
  ·have:=h.lt _ h';omega
 ·rw[St.put_other (by omega)];exact h.eq b hb hc
end
def Coll{α:Type}{w:Nat}(E:Enc α w)(b3:Nat)(p:List α->Prop)(M:Nat->Prop)(S:St):Prop:=
 ∃v ρ xs,S.heap b3=some (.cells [v] false)/\E.Own S v ρ xs/\M=Row ρ/\p xs
section
variable {α : Type} {w : Nat} {E : Enc α w} {b3 y : Nat} {p : List α → Prop} {M c : Nat → Prop} {S S2 : St} {v v' : Value} {ρ ρ' : Option Nat} {xs ys : List α}
theorem Coll.stab(hb:b3<y):Stab y (Coll E b3 p):=by
 rintro M S S' ⟨v,ρ,xs,h1,h2,rfl,h4⟩ hn he;exact⟨v,ρ,xs,(he b3 (.inl hb)).trans h1,h2.same hn (fun b hb=>he b (.inr hb)),rfl,h4⟩
theorem Coll.start(hb:S.heap b3=some (.cells [.slice none 0 0] false))(hp:p []):Coll E b3 p (fun _=>False) S:=
 ⟨_,none,[],hb,.nil,by funext b;simp[Row],hp⟩
theorem Coll.step(hb:b3<y)(hc:c b3)(hy:y<S.next)(hlt:∀b,Row ρ b->y<b/\b<S.next)(w1:E.Own S2 v' ρ' ys)(w2:Chg S S2 (Row ρ))(w3:∀b,ρ'=some b->ρ=some b\/S.next<=b)(hp:p ys) :
  Coll E b3 p (Row ρ') (S2.put b3 (.cells [v'] false))/\Chg S (S2.put b3 (.cells [v'] false)) (fun b=>b<y/\c b\/Row ρ b)/\∀b,Row ρ' b->Row ρ b\/S.next<=b/\b<(S2.put b3 (.cells [v'] false)).next:=by
 have hne:∀b,ρ'=some b->b≠b3:=fun b hb' e=>by
  rcases w3 b hb' with h|h
  ·have:=hlt b h;omega
  ·omega
 refine⟨⟨v',ρ',ys,St.put_self,w1.same (by simp) (fun b hb'=>St.put_other (hne b hb')),rfl,hp⟩,⟨by simpa using w2.le,fun {b} hb' hm=>?_⟩,fun b hb'=>?_⟩
 ·rw[St.put_other (fun e=>hm (.inl ⟨by omega,by rw[e];exact hc⟩)),w2.eq hb' (fun e=>hm (.inr e))]
 ·refine(w3 b hb').imp id (fun h=>⟨h,?_⟩);have hb2:ρ'=some b:=hb';subst hb2;simpa using w1.lt
end
theorem Old.trans_chg{s S S':St}{M:Nat->Prop}(h:Old s S)(g:Chg S S' M)(hM:∀b,b<s.next->¬M b):Old s S':=
 ⟨Nat.le_trans h.le g.le,fun hb=>(g.eq (Nat.lt_of_lt_of_le hb h.le) (hM _ hb)).trans (h.eq hb)⟩
theorem St.alloc_put{s:St}{y:Nat}{x z:AObj}(h:y<s.next):(s.alloc x).put y z=(s.put y z).alloc x:=by
 have h1:((s.alloc x).put y z).heap=((s.put y z).alloc x).heap:=by
  funext b;show(if b=y then some z else if b=s.next then some x else s.heap b)=(if b=s.next then some x else if b=y then some z else s.heap b)
  split<;>split<;>first|rfl|omega
 have h2:((s.alloc x).put y z).next=((s.put y z).alloc x).next:=rfl
 cases h3:(s.alloc x).put y z;cases h4:(s.put y z).alloc x;rw[h3,h4]at h1 h2;cases h1;cases h2;rfl
theorem Enc.Own.pushC{α:Type}{w:Nat}{E:Enc α w}{xs:List α}{s:St}{v:Value}{P:Program}{t e:TypeId}{bytes:Nat}{zero:List Value}{k:Post}{p:Value->St->Prop}{ρ:Option Nat}{x:Value}{a:α}(hts:A0e P t=some (e,w,bytes,zero))(htz:A5r P t=some false)(h:E.Own s v ρ xs)
  (hd:data x=true) (hc:x.cells.toList=E.cells a) (hlen:(xs.length+1)*bytes<=140737488355328) (hlen2:xs.length+1<=140737488355328) (hp:p (.slice (some ⟨s.next,0,none⟩) 1 1) (s.alloc (.cells (E.cells a) true)))
  (hk:∀v' S ρ',E.Own S v' ρ' (xs++[a])->Chg s S (Row ρ)->(∀b,ρ'=some b->ρ=some b\/s.next<=b)->k v' S) (hz:zero.length=w:=by rfl) (hw:0<w:=by decide) (hw':w<=16777216:=by decide) :
  newW (bslN (some (e,w,bytes,zero)) 1 #[(0,x)]) (fun y s=>chkW (some true) (p y s) (apdW P (A0e P t) t v y k s)) s:=by
 have:=h.push (k:=k) hts htz hd hc hlen hlen2 hk hz hw hw';rw[B9b hd hc hz hw',C7g]at this ⊢;exact⟨hp,this⟩
@[simp]theorem G7x{k:IntKind}{x y:Int}:B3t min2 [.int k x,.int k y]=some (.int k (if y<x then y else x)):=rfl
@[simp]theorem H0i{k:IntKind}{x y:Int}:B3t max2 [.int k x,.int k y]=some (.int k (if y>x then y else x)):=rfl
section
variable {α : Type} {q : IntKind} {f : α → Value} {s : St} {it b : Nat} {l todo : List (Int × α)} {p : Int × α}
structure A6f(q:IntKind)(f:α->Value)(s:St)(it b:Nat)(l todo:List (Int×α))(cur:Option (Int×α)):Prop where
 lt:b<s.next/\it<s.next
 nd:(l.map (·.1)).Nodup
 at_:∃(bs:List Nat) (c:Nat) (seen:List Nat),s.heap b=some (.map (kv q f l) bs c)/\bs.length=l.length/\(∀t∈bs,t<c)/\bs.Nodup/\s.heap it=some (.iter (some b) c seen c)/\
  (∀j (hj:j<l.length) (hb:j<bs.length),bs[j]∉seen↔l[j]∈todo)/\(∀p,cur=some p->∃j,l[j]?=some p/\seen.getLast?=bs[j]?/\j<bs.length)
theorem A6f.start{k:Post}(h:MapR q f s b l)(hk:∀S,A6f q f S s.next b l l none->S.next=s.next+1->Old s S->k (.pointer (some ⟨s.next,0,none⟩)) S):A75 true (.map (some b)) k s:=by
 obtain⟨bs,c,h1,h2,h3,h4⟩:=h.eq;have hl:=h.lt;simp only[A75,h1];refine⟨trivial,hk _ ⟨⟨by simp;omega,by simp⟩,h.nd,bs,c,[],?_,h2,h3,h4,by simp,fun j hj _=>by simp,fun p h=>by cases h⟩ (by simp) (Old.alloc (.refl _))⟩
 rw[St.alloc_old h.lt];exact h1
theorem A6f.next{cur:Option (Int×α)}{k:Post}(h:A6f q f s it b l todo cur)(htd:todo.Nodup)
  (hnew:∀p∈l,∀t1 t2,todo=t1++p::t2->∀S,A6f q f S it b l (t1++t2) (some p)->S.next=s.next->(∀{b'},b'≠it->S.heap b'=s.heap b')->k (.tuple #[.bool true,.int q p.1,f p.2]) S)
  (hdone:(∀p∈l,p∉todo)->k (.tuple #[.bool false]) s):B28 false (.pointer (some ⟨it,0,none⟩)) k s:=by
 obtain⟨bs,c,seen,h1,h2,h3,h4,h5,h6,_⟩:=h.at_;have hne:it≠b:=fun e=>by rw[e,h1]at h5;cases h5
 simp only[B28,h5,h1];refine⟨trivial,trivial,h3,Nat.le_refl _,fun j t e hj he hts=>?_,fun hall=>hdone fun p hp=>?_⟩
 ·obtain⟨hjb,hjt⟩:=List.getElem?_eq_some_iff.1 hj;have hjl:j<l.length:=by omega
  have hee:e=(.int q l[j].1,f l[j].2):=by
   simp only[kv,List.getElem?_map,List.getElem?_eq_getElem hjl]at he;simpa using he.symm
  rw[hee];have hmem:l[j]∈todo:=(h6 j hjl hjb).1 (by rw[hjt];exact hts)
  obtain⟨t1,t2,ht⟩:=List.append_of_mem hmem;refine hnew l[j] (List.getElem_mem hjl) t1 t2 ht _ ⟨⟨by simpa using h.lt.1,by simpa using h.lt.2⟩,h.nd,bs,c,seen++[t],?_,h2,h3,h4,St.put_self,fun i hi hib=>?_,fun p hp=>?_⟩ (by simp) (fun hb=>St.put_other hb)
  ·rw[St.put_other (fun e=>hne e.symm)];exact h1
  ·have hlnd:l.Nodup:=List.Pairwise.of_map _ (fun a b hab e=>hab (by rw[e])) h.nd
   have e1:bs[i]=t↔i=j:=⟨fun e=>A5o h4 (hi:=hib) (hj:=hjb) (by rw[e,hjt]),fun e=>by subst e;exact hjt⟩
   have e2:l[i]=l[j]↔i=j:=⟨fun e=>A5o hlnd e,fun e=>by subst e;rfl⟩
   have e3:=h6 i hi hib;rw[ht]at htd e3;have e4:l[j]∉t1++t2:=by
    obtain⟨_,g2,g3⟩:=List.nodup_append.1 htd;intro hm;rcases List.mem_append.1 hm with hm|hm
    ·exact g3 _ hm _ (by simp) rfl
    ·exact(List.nodup_cons.1 g2).1 hm
   simp only[List.mem_append,List.mem_singleton,not_or,e1];constructor
   ·rintro⟨g1,g2⟩;have:=e3.1 g1;simp only[List.mem_append,List.mem_cons]at this;rcases this with h|h|h
    ·exact .inl h
    ·exact absurd (e2.1 h) g2
    ·exact .inr h
   ·intro g;refine⟨e3.2 (by simp only[List.mem_append,List.mem_cons];exact g.imp id .inr),fun e=>?_⟩
    subst e;exact e4 (List.mem_append.2 g)
  ·cases hp;exact⟨j,List.getElem?_eq_getElem hjl,by simp[hj],hjb⟩
 ·intro ht;obtain⟨j,hj,rfl⟩:=List.getElem_of_mem hp;have hjb:j<bs.length:=by omega
  exact(h6 j hj hjb).2 ht (hall _ (List.getElem_mem hjb))
theorem A6f.entry{k:Post}(h:A6f q f s it b l todo (some p))(hk:k (.tuple #[.int q p.1,f p.2]) s):A7k (.pointer (some ⟨it,0,none⟩)) k s:=by
 obtain⟨bs,c,seen,h1,h2,h3,h4,h5,h6,h7⟩:=h.at_;obtain⟨j,hj,hl,hjb⟩:=h7 p rfl;simp only[A7k,h5,h1];refine⟨trivial,trivial,bs[j],j,(.int q p.1,f p.2),by rw[hl,List.getElem?_eq_getElem hjb],List.getElem?_eq_getElem hjb,by simp[kv,hj],hk⟩
theorem A6f.map{cur:Option (Int×α)}(h:A6f q f s it b l todo cur):MapR q f s b l:=by
 obtain⟨bs,c,seen,h1,h2,h3,h4,_⟩:=h.at_;exact⟨h.lt.1,⟨bs,c,h1,h2,h3,h4⟩,h.nd⟩
theorem A6f.del{z:Value}{k:Post}(h:A6f q f s it b l todo (some p))(hne:it≠b)(hk:∀S l',A6f q f S it b l' todo none->(∀x,x∈l'↔x∈l/\x≠p)->S.next=s.next->(∀{b'},b'≠b->S.heap b'=s.heap b')->k undef S):delW (some (.int q,z)) (.map (some b)) (.int q p.1) k s:=by
 obtain⟨bs,c,seen,h1,h2,h3,h4,h5,h6,h7⟩:=h.at_;obtain⟨j,hj,_,hjb⟩:=h7 p rfl;obtain⟨hjl,hjp⟩:=List.getElem?_eq_some_iff.1 hj;have hlnd:l.Nodup:=List.Pairwise.of_map _ (fun a b hab e=>hab (by rw[e])) h.nd
 have hix:ixOf p.1 l=some (j,p.2):=by
  cases hi:ixOf p.1 l with
  | none=>exact absurd (List.mem_map.2 ⟨p,by rw[<-hjp];exact List.getElem_mem hjl,rfl⟩) (B5u.1 hi)
  | some w=>
   obtain⟨i,x⟩:=w;obtain⟨hil,hix⟩:=List.getElem?_eq_some_iff.1 (B1o hi);have:i=j:=A5o (l:=l.map (·.1)) h.nd (hi:=by simpa using hil) (hj:=by simpa using hjl) (by simp[hix,hjp])
   subst this;rw[hjp]at hix;rw[hix]
 simp only[delW,h1,B1e,hix,Option.map_some,Nat.zero_add];have hsub:(l.eraseIdx j).map (·.1) |>.Nodup:=by rw[A5q];exact h.nd.sublist (List.eraseIdx_sublist _ _)
 refine hk _ (l.eraseIdx j) ⟨⟨by simpa using h.lt.1,by simpa using h.lt.2⟩,hsub,bs.eraseIdx j,c,seen,?_,by simp[List.length_eraseIdx,h2],fun t ht=>h3 t (List.mem_of_mem_eraseIdx ht),h4.sublist (List.eraseIdx_sublist _ _),(St.put_other hne).trans h5,fun i hi hib=>?_,fun p h=>by cases h⟩ (fun x=>?_) (by simp) (fun hb=>St.put_other hb)
 ·rw[St.put_self];simp[kv,A5q]
 ·rw[List.getElem_eraseIdx,List.getElem_eraseIdx];split
  ·exact h6 i _ _
  ·exact h6 (i+1) _ _
 ·constructor
  ·intro hx;obtain⟨i,hi,rfl⟩:=List.getElem_of_mem hx;rw[List.getElem_eraseIdx];split
   ·rename_i hlt;exact⟨List.getElem_mem _,fun e=>by have:=A5o hlnd (e.trans hjp.symm);omega⟩
   ·rename_i hlt;exact⟨List.getElem_mem _,fun e=>by have:=A5o hlnd (e.trans hjp.symm);omega⟩
  ·rintro⟨hx,hne⟩;obtain⟨i,hi,rfl⟩:=List.getElem_of_mem hx;have hij:i≠j:=fun e=>by subst e;exact hne hjp
   exact List.mem_eraseIdx_iff_getElem.2 ⟨i,hi,hij,rfl⟩
end
def B17(acc:ByteArray):List Int->ByteArray
 | []=>acc
 | n::r=>B17 (acc.push (UInt8.ofNat n.toNat)) r
theorem C3h{xs:List Int}{acc:ByteArray}:A7o? ((intE .u8).row xs) acc=some (B17 acc xs):=by
 induction xs generalizing acc with
 | nil=>rfl
 | cons a r ih=>rw[Enc.row_cons];exact ih
theorem Enc.Sl.cells_{α:Type}{w:Nat}{E:Enc α w}{xs:List α}{v:Value}{s:St}(h:E.Sl s v xs):(∃a l c,v=.slice a l c)/\A0z w v s=some (E.row xs):=by
 cases h with
 | nil=>exact⟨⟨_,_,_,rfl⟩,rfl⟩
 | empty=>exact⟨⟨_,_,_,rfl⟩,by simp[A0z]⟩
 | row h=>
  refine⟨⟨_,_,_,rfl⟩,?_⟩;obtain⟨pre,post,tl,hb,rfl⟩:=h;by_cases hx:xs=[]
  ·subst hx;simp[A0z]
  ·have h0:¬xs.length=0:=fun e=>hx (List.length_eq_zero_iff.1 e);simp only[A0z,if_neg h0,hb];rw[if_pos (by simp),List.drop_left,List.take_append_of_le_length (by simp),List.take_of_length_le (by simp)]
theorem D2r{xs:List Int}{v:Value}{s:St}(h:(intE .u8).Sl s v xs):strV v s=some (.string (B17 .empty xs)):=by
 obtain⟨⟨a,l,c,rfl⟩,h2⟩:=h.cells_;simp only[strV,h2,Option.bind_some,C3h,Option.map_some]
@[congr]theorem F8c{b:Bool}{v v':Value}{k:Post}{s:St}(h:mk v=v'):B28 b v k s=B28 b v' k s:=by simp only[mk]at *;rw[h]
@[congr]theorem E5r{v v':Value}{k:Post}{s:St}(h:mk v=v'):A7k v k s=A7k v' k s:=by simp only[mk]at *;rw[h]
@[congr]theorem E5v{b b':Bool}{v v':Value}{k:Post}{s:St}(hb:mk b=b')(h:mk v=v'):A75 b v k s=A75 b' v' k s:=by simp only[mk]at *;rw[h,hb]
end Go.Zz
