import Derived.Test.YtnghaapdoanabaaGreatDoorWO1
import Derived.Test.YtnghaapdoanabaaGreatDoorWH
set_option linter.all false
set_option maxRecDepth 20000
set_option linter.all false
namespace Go.Zz
open Go
variable {X : Y0}
def A7m:A1k:=⟨0,0,0,0,0,0,0,0,0,0,[]⟩
def A7n(c:A1k):Bool:=decide (c.kind=1)||decide (c.kind=2)||decide (c.kind=3)
structure GetR(X:Y0)(g:Value)(s:St)(G:Int->Option A1k):Prop where
 fn:∃f a b,g=.func (.func f) a b
 get:∀(n:Int) (Q:Post) (S:St),Old s S->(∀v S',(intE .u8).New S S' v ((G n).getD A7m).body->Q (.tuple #[A1r ((G n).getD A7m) v,.bool (G n).isSome]) S')->A0u P (CC X) g [.int .u64 n] Q S
theorem GetR.old{g:Value}{s S:St}{G:Int->Option A1k}(h:GetR X g s G)(o:Old s S):GetR X g S G:=⟨h.fn,fun n Q S' o'=>h.get n Q S' (o.trans o')⟩
def E2z(G:Int->Option A1k)(n:Int):Bool:=(G n).isSome&&decide (((G n).getD A7m).num=n)&&A7n ((G n).getD A7m)
def C17(G:Int->Option A1k)(n:Int):Bool:=E2z G n&&A6t ((G n).getD A7m)
def A5k(G:Int->Option A1k):Nat->Int->List Int
 | 0,_=>[]
 | k+1,n=>if C17 G n&&!decide (((G n).getD A7m).kind=1)then((G n).getD A7m).ref::A5k G k ((G n).getD A7m).ref else []
theorem C45{G:Int->Option A1k}{n:Int}:A5k G 0 n=[]:=rfl
theorem B5o{G:Int->Option A1k}{k:Nat}{n:Int}:A5k G (k+1) n=if C17 G n&&!decide (((G n).getD A7m).kind=1)then((G n).getD A7m).ref::A5k G k ((G n).getD A7m).ref else []:=rfl
theorem B7e{G:Int->Option A1k}:∀{k:Nat} {n:Int},(A5k G k n).length<=k
 | 0,_=>by simp[A5k]
 | k+1,n=>by rw[B5o];split<;>simp;exact B7e
section
variable {s : St} {G : Int → Option A1k} {g : Value} {n : Int} {Q : Post}
theorem D5z{b:Bool}{c:A1k}{v:Value}{k:Post}{s:St}(hv:data v=true/\v.cells=#[v])(hk:k (A19 b (.bool (A7n c))) s) :
  gW (some b) (fun k s=>A0u P (calls X) (fv 42) [A19 b (A1r c v)] k s) k s:=by
 refine B20 (.bool (A7n c)) (fun hb k2 hk2=>?_) hk;subst hb;simp -implicitDefEqProofs (disch:=first|exact dsc|fail)[];exact B00 hk2 hv
theorem E1p{b:Bool}{c:A1k}{v:Value}{k:Post}{s:St}(h1:(intE .u8).In s v c.body)(hk:k (A19 b (.bool (A6t c))) s) :
  gW (some b) (fun k s=>A0u P (calls X) (fv 41) [A19 b (A1r c v)] k s) k s:=by
 refine B20 (.bool (A6t c)) (fun hb k2 hk2=>?_) hk;subst hb;simp -implicitDefEqProofs (disch:=first|exact dsc|fail)[];exact B60 h1 hk2
theorem D9g(hg:GetR X g s G)(hq:∀v S',(intE .u8).New s S' v ((G n).getD A7m).body->Q (.tuple #[A1r ((G n).getD A7m) v,.bool (E2z G n)]) S'):CC X 181 [g,.int .u64 n] Q s:=by
 obtain⟨f,a,b,rfl⟩:=hg.fn;have hnil:binV P .eql 179 (.func (.func f) a b) .nilFunc=some (.bool false):=by simp[binV,eqOp]
 refine F5v rfl ?_
 try simp -implicitDefEqProofs (disch:=first|exact dsc|fail)[hnil]
 refine hg.get n _ _ (by simp) fun v S hN=>?_
 obtain⟨ρ,w1,o1,w3⟩:=hN;have hd:=w1.in_.data;have hle:=o1.le;simp only[St.alloc_next]at hle w3;have b0:=(o1.eq (b:=s.next) (by simp)).trans St.alloc_self
 have oS:Old s S:=(Old.alloc (.refl _)).trans o1;unfold E2z at hq;generalize (G n).getD A7m=c at *;generalize (G n).isSome=bb at *;unfold A1r at *
 try simp -implicitDefEqProofs (disch:=first|exact dsc|fail)[hd,b0]
 refine D5z (c:=c) hd ?_
 try simp -implicitDefEqProofs (disch:=first|exact dsc|fail)[b0]
 exact A0a (hq v _ ⟨ρ,w1.same (by simp) (fun b hb=>by
  have:=w3 b hb;have hbl:b<S.next:=by subst hb;exact w1.lt
  rw[St.alloc_old (by simpa using hbl),St.put_other (by omega)]),(oS.put (Nat.le_refl _)).alloc,fun b hb=>by have:=w3 b hb;omega⟩)
theorem D1k(hg:GetR X g s G)(hq:∀v S',(intE .u8).New s S' v ((G n).getD A7m).body->Q (.tuple #[A1r ((G n).getD A7m) v,.bool (C17 G n)]) S'):CC X 158 [g,.int .u64 n] Q s:=by
 refine F1w rfl ?_
 try simp -implicitDefEqProofs (disch:=first|exact dsc|fail)[]
 refine D9g (hg.old (by simp)) fun v S hN=>?_
 obtain⟨ρ,w1,o1,w3⟩:=hN;have hd:=w1.in_.data;have hle:=o1.le;simp only[St.alloc_next]at hle w3;have b0:=(o1.eq (b:=s.next) (by simp)).trans St.alloc_self
 have oS:Old s S:=(Old.alloc (.refl _)).trans o1;unfold C17 at hq;generalize (G n).getD A7m=c at *;generalize E2z G n=bb at *;unfold A1r at *
 try simp -implicitDefEqProofs (disch:=first|exact dsc|fail)[hd,b0]
 refine E1p (c:=c) (w1.in_.old (by simp)) ?_
 try simp -implicitDefEqProofs (disch:=first|exact dsc|fail)[b0]
 exact A0a (hq v _ ⟨ρ,w1.same (by simp) (fun b hb=>by
  have:=w3 b hb;have hbl:b<S.next:=by subst hb;exact w1.lt
  rw[St.alloc_old (by simpa using hbl),St.put_other (by omega)]),(oS.put (Nat.le_refl _)).alloc,fun b hb=>by have:=w3 b hb;omega⟩)
theorem C9m(hg:GetR X g s G)(hq:∀v S',(intE .u64).New s S' v (A5k G 4 n)->Q v S'):CC X 133 [g,.int .u64 n] Q s:=by
 refine F0t rfl ?_
 try simp -implicitDefEqProofs (disch:=first|exact dsc|fail)[]
 refine D1w fun I hI=>?_;have key:∀(r:Nat) (m:Int) (xs:List Int) (v:Value) S,(intE .u64).New s S v xs->xs.length+r=4->xs++A5k G r m=A5k G 4 n->I g (.int .u64 m) v S:=by
  intro r;induction r with
  | zero=>
   intro m xs v S hN hl he;refine hI _ _ _ _ ?_;have hlt:¬(xs.length:Int)<4:=by omega
   rw[C45,List.append_nil]at he
   try simp -implicitDefEqProofs (disch:=first|exact dsc|fail)[hN.in_.len A0c,hlt]
   exact A0a (hq v S (by rw[<-he];exact hN))
  | succ r ih=>
   intro m xs v S hN hl he;refine hI _ _ _ _ ?_;have hlt:(xs.length:Int)<4:=by omega
   rw[B5o (k:=r) (n:=m)]at he
   try simp -implicitDefEqProofs (disch:=first|exact dsc|fail)[hN.in_.len A0c,hlt]
   refine D1k (hg.old hN.old_) fun v2 S2 hN2=>?_;have hd:=hN2.in_.data;have hN3:=hN.then hN2.old_;generalize (G m).getD A7m=c at *;unfold A1r;have hfin:A5k G 4 n=xs->∀S3,Old S2 S3->Q v S3:=fun e S3 o3=>hq v S3 (by rw[e];exact hN3.then o3)
   by_cases hw:C17 G m=true
   ·by_cases h1:c.kind=1
    ·simp only[hw,h1,decide_true,Bool.not_true,Bool.and_false,Bool.false_eq_true,if_false,List.append_nil]at he
     try simp -implicitDefEqProofs (disch:=first|exact dsc|fail)[hd,hw,h1]
     exact A0a (hfin he.symm _ (by simp))
    ·simp only[hw,h1,decide_false,Bool.not_false,Bool.and_self,if_true]at he
     try simp -implicitDefEqProofs (disch:=first|exact dsc|fail)[hd,hw,h1]
     have hN4:(intE .u64).New s (S2.alloc (.cells [.int .i64 c.kind,.int .u64 c.num,.int .i64 c.min,.int .i64 c.branch,.int .i64 c.vol,.int .i64 c.blk,.int .u64 c.ref,.int .i64 c.from,.int .i64 c.to,.int .i64 c.until_,v2] false)) v xs:=hN3.then (by simp)
     refine hN4.push (a:=c.ref) A1o A2m (by rfl) (by rfl) (by omega) (by omega) fun v5 S5 hN5=>?_
     try simp -implicitDefEqProofs (disch:=first|exact dsc|fail)[]
     exact ih c.ref (xs++[c.ref]) v5 S5 hN5 (by simp;omega) (by rw[List.append_assoc];exact he)
   ·simp only[hw,Bool.false_and,Bool.false_eq_true,if_false,List.append_nil]at he
    try simp -implicitDefEqProofs (disch:=first|exact dsc|fail)[hd,hw]
    exact A0a (hfin he.symm _ (by simp))
 exact key 4 n [] _ s (.nil (.refl _)) rfl rfl
theorem E1s{v:Value}{xs:List Int}(hv:(intE .u64).In s v xs)(hlen:xs.length<10000000)(hq:∀m S l,SetR .u64 S m l->l.length<=xs.length->(∀n,n∈ks l↔n∈xs)->Old s S->s.next<=m->Q (.map (some m)) S):CC X 56 [v] Q s:=by
 refine G9k rfl ?_
 try simp -implicitDefEqProofs (disch:=first|exact dsc|fail)[mapN,hv.len A0c]
 refine D8m fun I hI=>?_;refine up (n:=xs.length) (M:=fun i=>∀S l,SetR .u64 S s.next l->l.length<=i->(∀n,n∈ks l↔n∈xs.take i)->Old s S->I (.map (some s.next)) v (.int .i64 xs.length) (.int .i64 i) S) (fun i hi ih S l h1 h2 h3 h4=>?_) 0 (Nat.zero_le _) _ [] .new (by simp) (by simp[ks]) (by simp)
 refine hI _ _ _ _ _ ?_;have hvS:=hv.old h4;by_cases hlt:i<xs.length
 ·try simp -implicitDefEqProofs (disch:=first|exact dsc|fail)[hlt,hvS.idx,hvS.one]
  refine h1.put (x:=()) rfl fun S2 r1 r2 r3=>?_
  try simp -implicitDefEqProofs (disch:=first|exact dsc|fail)[]
  have hlS:=h1.lt;refine ih hlt S2 _ r1 (by have:=A7e (l:=l) (n:=xs[i]) (x:=());omega) (fun n=>?_) ⟨by have:=h4.le;omega,fun {b} hb=>(r3 (by omega)).trans (h4.eq hb)⟩
  rw[A8c,h3 n,A8h hlt];exact⟨fun h=>h.elim .inr .inl,fun h=>h.elim .inr .inl⟩
 ·have hie:i=xs.length:=by omega
  subst hie;rw[List.take_length]at h3
  try simp -implicitDefEqProofs (disch:=first|exact dsc|fail)[]
  exact A0a (hq s.next S l h1 h2 h3 h4 (Nat.le_refl _))
theorem B42{m:Nat}{l:List (Int×Unit)}(hm:SetR .u64 s m l)(hlen:l.length<16000000)(hq:∀v S xs,(intE .u64).New s S v xs->xs.length=l.length->xs.Pairwise (·<·)->(∀n,n∈xs↔n∈ks l)->Q v S):CC X 58 [.map (some m)] Q s:=by
 refine G5q rfl ?_
 try simp -implicitDefEqProofs (disch:=first|exact dsc|fail)[]
 refine E7x fun bx S y1 y2 y3=>?_
 try simp -implicitDefEqProofs (disch:=first|exact dsc|fail)[]
 refine C6r (hm.old y2) y1 hlen fun v S2 xs z1 z2 z3=>?_
 try simp -implicitDefEqProofs (disch:=first|exact dsc|fail)[]
 refine A0a (hq v S2 xs (z1.from y2) ?_ z3 (fun n=>z2.mem_iff))
 have:=z2.length_eq;simpa[ks]using this
theorem D01{v:Value}{xs:List Int}(hg:GetR X g s G)(hv:(intE .u64).In s v xs)(hlen:xs.length<=200000)(hq:∀v S ys,(intE .u64).New s S v ys->ys.length<=1000000->ys.Pairwise (·<·)->(∀n,n∈ys↔n∈xs\/∃m∈xs,n∈A5k G 4 m)->Q v S):CC X 99 [g,v] Q s:=by
 refine G5u rfl ?_
 try simp -implicitDefEqProofs (disch:=first|exact dsc|fail)[mapN,hv.len A0c]
 refine D8v fun I hI=>?_;refine up (n:=xs.length) (M:=fun i=>∀S l,SetR .u64 S s.next l->l.length<=5*i->(∀n,n∈ks l↔n∈xs.take i\/∃m∈xs.take i,n∈A5k G 4 m)->Old s S->I g (.map (some s.next)) v (.int .i64 xs.length) (.int .i64 i) S) (fun i hi ih S l h1 h2 h3 h4=>?_) 0 (Nat.zero_le _) _ [] .new (by simp) (by simp[ks]) (by simp)
 refine hI _ _ _ _ _ _ ?_;have hvS:=hv.old h4;have hlS:=h1.lt;by_cases hlt:i<xs.length
 ·try simp -implicitDefEqProofs (disch:=first|exact dsc|fail)[hlt,hvS.idx,hvS.one]
  refine h1.put (x:=()) rfl fun S2 r1 r2 r3=>?_;have o2:Old s S2:=⟨by have:=h4.le;omega,fun {b} hb=>(r3 (by omega)).trans (h4.eq hb)⟩
  try simp -implicitDefEqProofs (disch:=first|exact dsc|fail)[]
  refine C9m (hg.old o2) fun v3 S3 hN=>?_;obtain⟨ρ,w1,w2,w3⟩:=hN;have hle3:=w2.le;have hI3:=w1.in_
  try simp -implicitDefEqProofs (disch:=first|exact dsc|fail)[hI3.len A0c]
  refine D8k fun I2 hI2=>?_;have hnl:=B7e (G:=G) (k:=4) (n:=xs[i]);refine up (n:=(A5k G 4 xs[i]).length) (M:=fun j=>∀S4 l4,SetR .u64 S4 s.next l4->l4.length<=5*i+1+j->(∀n,n∈ks l4↔(n=xs[i]\/n∈ks l)\/n∈(A5k G 4 xs[i]).take j)->Chg S3 S4 (·=s.next)->I2 g (.map (some s.next)) v (.int .i64 xs.length) (.int .i64 i) v3 (.int .i64 (A5k G 4 xs[i]).length) (.int .i64 j) S4) (fun j hj ihj S4 l4 q1 q2 q3 q4=>?_) 0 (Nat.zero_le _) S3 _ (r1.old w2) (by have:=A7e (l:=l) (n:=xs[i]) (x:=());omega) (fun n=>by rw[A8c];simp) .refl
  refine hI2 _ _ _ _ _ _ _ _ _ ?_;have hI4:=(w1.same (s':=S4) q4.le (fun b hb=>q4.eq (by subst hb;exact w1.lt) (by have:=w3 b hb;omega))).in_
  by_cases hltj:j<(A5k G 4 xs[i]).length
  ·try simp -implicitDefEqProofs (disch:=first|exact dsc|fail)[hltj,hI4.idx,hI4.one]
   refine q1.put (x:=()) rfl fun S5 k1 k2 k3=>?_
   try simp -implicitDefEqProofs (disch:=first|exact dsc|fail)[]
   refine ihj hltj S5 _ k1 (by have:=A7e (l:=l4) (n:=(A5k G 4 xs[i])[j]) (x:=());omega) (fun n=>?_) (q4.trans ⟨by omega,fun {b} hb hn=>k3 hn⟩ (fun b hb=>.inl hb))
   rw[A8c,q3 n,A8h hltj];constructor
   ·rintro(h|h|h)
    ·exact .inr (.inr h)
    ·exact .inl h
    ·exact .inr (.inl h)
   ·rintro(h|h|h)
    ·exact .inr (.inl h)
    ·exact .inr (.inr h)
    ·exact .inl h
  ·have hje:j=(A5k G 4 xs[i]).length:=by omega
   subst hje;rw[List.take_length]at q3
   try simp -implicitDefEqProofs (disch:=first|exact dsc|fail)[]
   refine ih hlt S4 l4 q1 (by omega) (fun n=>?_) ⟨by have:=o2.le;have:=q4.le;omega,fun {b} hb=>by rw[q4.eq (by have:=o2.le;omega) (by omega),w2.eq (by have:=o2.le;omega)];exact o2.eq hb⟩
   rw[q3 n,h3 n,A2w hlt];simp only[List.mem_append,List.mem_singleton];constructor
   ·rintro((h|h|⟨m,h,h'⟩)|h)
    ·exact .inl (.inr h)
    ·exact .inl (.inl h)
    ·exact .inr ⟨m,.inl h,h'⟩
    ·exact .inr ⟨_,.inr rfl,h⟩
   ·rintro((h|h)|⟨m,h|h,h'⟩)
    ·exact .inl (.inr (.inl h))
    ·exact .inl (.inl h)
    ·exact .inl (.inr (.inr ⟨m,h,h'⟩))
    ·subst h;exact .inr h'
 ·have hie:i=xs.length:=by omega
  subst hie;rw[List.take_length]at h3
  try simp -implicitDefEqProofs (disch:=first|exact dsc|fail)[]
  refine E7x fun bx S2 y1 y2 y3=>?_
  try simp -implicitDefEqProofs (disch:=first|exact dsc|fail)[]
  refine C6r (h1.old y2) y1 (by omega) fun v2 S3 ys z1 z2 z3=>?_
  try simp -implicitDefEqProofs (disch:=first|exact dsc|fail)[]
  refine A0a (hq v2 S3 ys (z1.from (h4.trans y2)) ?_ z3 (fun n=>by rw[z2.mem_iff];exact h3 n))
  have:=z2.length_eq;simp only[ks,List.length_map]at this;omega
end
section
variable {s : St} {o : Nat → Nat} {Q : Post}
theorem C7p{p:A0t->Prop}:∀{h:Nat} {t:NT h},OkN p h t->∀x∈A88 h t,p x
 | 0,_,ho,x,hx=>ho.2 x hx
 | h+1,t,ho,x,hx=>by
  obtain⟨u,hu,hx'⟩:=List.mem_flatMap.1 hx;exact C7p (ho.2.2 u hu) x hx'
theorem C5u{p:A0t->Prop}{T:Option AN}(h:TOkT p T):∀x∈A78 T,p x:=by
 cases T with
 | none=>intro x hx;simp[A78]at hx
 | some a=>exact C7p (h a rfl)
def A91(F:List Twig)(T:Option AN)(pr:List Int)(x:A0t):Bool:=match fNum F x.br with
 | none=>false
 | some fr=>decide (fr<x.num)&&pr.any fun p=>decide (fr<=p)&&decide (x.num<=p)&&(match B3z T x with
  | none=>true
  | some nx=>decide (p<nx))
theorem C3p{ci cf x f:Nat}{T:Option AN}{F:List Twig}{v:Value}{pr:List Int}(hI:A21 s o ci x T)(hF:ForC s o cf f F)(hv:(intE .u64).In s v pr)(hlen:pr.length<=200000)
  (hq:∀v S xs,(intE .u64).New s S v xs->xs.length<=200000->xs.Pairwise (·<·)->(∀n,n∈xs↔∃y∈A78 T,y.num=n/\A91 F T pr y=true)->Q v S):CC X 100 [.pointer (some ⟨x,0,none⟩),.pointer (some ⟨f,0,none⟩),v] Q s:=by
 have hd:=hv.data;have hbx:=C1q hd.1;rw[hd.2]at hbx;refine F0c rfl ?_
 try simp -implicitDefEqProofs (disch:=first|exact dsc|fail)[A0j A1g,A0j A0w,hd,mapN,hbx]
 generalize hs1:((((s.alloc (.cells [.pointer (some ⟨x,0,none⟩)] false)).alloc (.cells [.pointer (some ⟨f,0,none⟩)] false)).alloc (.cells [v] false)).alloc (.map [] [] 0)).alloc (.cells [.map (some (s.next+1+1+1))] false)=s1
 have o1:Old s s1:=by subst hs1;exact(((((Old.refl s).alloc).alloc).alloc).alloc).alloc
 have n1:s1.next=s.next+5:=by subst hs1;simp
 have b0:s1.heap s.next=some (.cells [.pointer (some ⟨x,0,none⟩)] false):=by subst hs1;simp -implicitDefEqProofs (disch:=first|exact dsc|fail)[]
 have b1:s1.heap (s.next+1)=some (.cells [.pointer (some ⟨f,0,none⟩)] false):=by subst hs1;simp -implicitDefEqProofs (disch:=first|exact dsc|fail)[]
 have b2:s1.heap (s.next+1+1)=some (.cells [v] false):=by subst hs1;simp -implicitDefEqProofs (disch:=first|exact dsc|fail)[]
 have b3:s1.heap (s.next+1+1+1)=some (.map [] [] 0):=by subst hs1;simp -implicitDefEqProofs (disch:=first|exact dsc|fail)[]
 have b4:s1.heap (s.next+1+1+1+1)=some (.cells [.map (some (s.next+1+1+1))] false):=by subst hs1;simp -implicitDefEqProofs (disch:=first|exact dsc|fail)[]
 clear hs1;have hI0:=hI;obtain⟨_,_,_,_,hok⟩:=hI0;refine D8r (o:=tint o s.next (ci+cf+1)) (hI.fd (d:=fun _=>False) o1.tint (fun h=>h) (fun h=>h)) fun bx t S hbx hT ho hbn=>?_
 try simp -implicitDefEqProofs (disch:=first|exact dsc|fail)[]
 refine B6x fun hY=>?_;have hn:=ho.le;have oS:=o1.trans ho;have c0:=(ho.eq (b:=s.next) (by omega)).trans b0
 have c1:=(ho.eq (b:=s.next+1) (by omega)).trans b1
 have c2:=(ho.eq (b:=s.next+1+1) (by omega)).trans b2
 have c3:=(ho.eq (b:=s.next+1+1+1) (by omega)).trans b3
 have c4:=(ho.eq (b:=s.next+1+1+1+1) (by omega)).trans b4
 have hvS:=hv.old oS;have hm0:SetR .u64 S (s.next+1+1+1) []:=⟨by omega,⟨[],0,c3,rfl,by simp,by simp⟩,by simp⟩
 have hfr:∀S2,Chg S S2 (·=s.next+1+1+1)->A21 S2 (tint o s.next (ci+cf+1)) ci x T/\ForC S2 (tint o s.next (ci+cf+1)) cf f F:=fun S2 hch=>by
  have f1:Fd s S o (tint o s.next (ci+cf+1)) (fun _=>False):=oS.tint
  have f2:Fd S S2 (tint o s.next (ci+cf+1)) (tint o s.next (ci+cf+1)) (·=ci+cf+1):=⟨hch.mono (fun b e=>by rw[e];exact A0d (by omega)),fun _=>rfl⟩
  exact⟨(hI.fd f1 (fun h=>h) (fun h=>h)).fd f2 (by omega) (by omega),(hF.fd f1 (fun h=>h)).fd f2 (by omega)⟩
 refine F6f (o:=tint o s.next (ci+cf+1)) (T:=T) (cc:=(·=s.next+1+1+1)) (R:=fun i=>MSet .u64 (s.next+1+1+1) i (fun m=>∃y∈(A78 T).take i,y.num=m/\A91 F T pr y=true))
  (B:=fun y Q S'=>B0v (CC X) Q S.next (A4x (.pointer (some ⟨s.next,0,none⟩)) (.pointer (some ⟨s.next+1,0,none⟩)) (.pointer (some ⟨s.next+1+1,0,none⟩)) (.pointer (some ⟨s.next+1+1+1+1,0,none⟩))) (.pointer (some ⟨s.next,0,none⟩)) (.pointer (some ⟨s.next+1,0,none⟩)) (.pointer (some ⟨s.next+1+1,0,none⟩)) (.pointer (some ⟨s.next+1+1+1+1,0,none⟩)) (.pointer (some ⟨S'.next,0,none⟩)) (S'.alloc (.cells (A0s.cells y) false)))
  hT hok hbx (fun b hb e=>?_) (fun i=>MSet.stab (by omega)) (fun y Q s' hlt h1 h2=>hY _ _ _ h1 ?_) (fun pre y post he Mb S2 Q2 hR hch hyn hM hgo=>?_) ⟨[],hm0,by simp,by simp[ks],rfl⟩ (fun Mb S2 hR hch hM=>?_)
 ·rw[e,A0d (by omega)];omega
 ·simp -implicitDefEqProofs [-B0v];rw[St.alloc_put hlt];exact⟨(St.alloc_old hlt).trans h1,h2.2⟩
 ·obtain⟨l,q1,q2,q3,rfl⟩:=hR;have d0:=(hch.eq (b:=s.next) (by omega) (by omega)).trans c0
  have d1:=(hch.eq (b:=s.next+1) (by omega) (by omega)).trans c1
  have d2:=(hch.eq (b:=s.next+1+1) (by omega) (by omega)).trans c2
  have d4:=(hch.eq (b:=s.next+1+1+1+1) (by omega) (by omega)).trans c4
  have hle2:=hch.le;obtain⟨hI2,hF2⟩:=hfr S2 hch;have hv2:=hvS.chg hch (fun a l c e=>by
   have:=hv.bel;rw[e]at this;simp at this;omega)
  have htk:(A78 T).take (pre.length+1)=(A78 T).take pre.length++[y]:=by rw[he,List.take_append,List.take_append,Nat.add_sub_cancel_left,Nat.sub_self,List.take_of_length_le (show pre.length<=pre.length+1 by omega)];simp
  have hex:∀m,(∃z∈(A78 T).take (pre.length+1),z.num=m/\A91 F T pr z=true)↔(∃z∈(A78 T).take pre.length,z.num=m/\A91 F T pr z=true)\/(y.num=m/\A91 F T pr y=true):=by
   intro m;rw[htk];constructor
   ·rintro⟨z,hz,e⟩;rcases List.mem_append.1 hz with hz|hz
    ·exact .inl ⟨z,hz,e⟩
    ·rw[List.mem_singleton.1 hz]at e;exact .inr e
   ·rintro(⟨z,hz,e⟩|e)
    ·exact⟨z,List.mem_append.2 (.inl hz),e⟩
    ·exact⟨_,List.mem_append.2 (.inr (List.mem_singleton.2 rfl)),e⟩
  have o3:Old S2 (S2.alloc (.cells (A0s.cells y) false)):=by simp
  have skip:∀S3,Old S2 S3->A91 F T pr y=false->S3.heap S.next=some (.loop (A4x (.pointer (some ⟨s.next,0,none⟩)) (.pointer (some ⟨s.next+1,0,none⟩)) (.pointer (some ⟨s.next+1+1,0,none⟩)) (.pointer (some ⟨s.next+1+1+1+1,0,none⟩))) A1l A1b A1c .busy none)/\Q2 (.bool true) (S3.put S.next (.loop (A4x (.pointer (some ⟨s.next,0,none⟩)) (.pointer (some ⟨s.next+1,0,none⟩)) (.pointer (some ⟨s.next+1+1,0,none⟩)) (.pointer (some ⟨s.next+1+1+1+1,0,none⟩))) A1l A1b A1c .ready none)):=fun S3 o4 hp=>
   hgo (fun _=>False) S3 ⟨l,q1.old o4,by omega,fun m=>(q3 m).trans ((hex m).trans (by simp[hp])).symm,rfl⟩ o4.chg (fun b h=>h.elim)
  try simp -implicitDefEqProofs (disch:=first|exact dsc|fail)[d1]
  have hS2lt:S.next<S2.next:=hyn
  refine C1x (hF2.fd (d:=fun _=>False) o3.fd (fun h=>h)) ?_;unfold A91 at skip;have b8:(S2.alloc (.cells (A0s.cells y) false)).heap S2.next=some (.cells (A0s.cells y) false):=St.alloc_self
  have n8:(S2.alloc (.cells (A0s.cells y) false)).next=S2.next+1:=by simp
  simp only[A1p]at b8 n8 o3 ⊢;generalize S2.alloc (.cells [.int .i64 y.br,.int .i64 y.vol,.int .i64 y.blk,.int .u64 y.num] false)=S3 at b8 n8 o3 ⊢;have skip1:∀n,(match fNum F y.br with|none=>false|some fr=>decide (fr<y.num)&&pr.any fun p=>decide (fr<=p)&&decide (y.num<=p)&&(match B3z T y with|none=>true|some nx=>decide (p<nx)))=false->
    S3.heap S.next=some (.loop (A4x (.pointer (some ⟨s.next,0,none⟩)) (.pointer (some ⟨s.next+1,0,none⟩)) (.pointer (some ⟨s.next+1+1,0,none⟩)) (.pointer (some ⟨s.next+1+1+1+1,0,none⟩))) A1l A1b A1c .busy none)/\
    Q2 (.bool true) ((S3.put S.next (.loop (A4x (.pointer (some ⟨s.next,0,none⟩)) (.pointer (some ⟨s.next+1,0,none⟩)) (.pointer (some ⟨s.next+1+1,0,none⟩)) (.pointer (some ⟨s.next+1+1+1+1,0,none⟩))) A1l A1b A1c .ready none)).alloc (.cells [.int .u64 n] false)):=fun n hp=>by
   refine⟨(skip S3 o3 hp).1,?_⟩;have:=(skip (S3.alloc (.cells [.int .u64 n] false)) (o3.trans (by simp)) hp).2
   rwa [St.alloc_put_old (by omega)]at this
  have e0:=(o3.eq (by omega)).trans d0
  have e2:=(o3.eq (by omega)).trans d2
  have e4:=(o3.eq (by omega)).trans d4
  cases hfn:fNum F y.br with
  | none=>
   rw[hfn]at skip1
   try simp -implicitDefEqProofs (disch:=first|exact dsc|fail)[]
   exact skip1 _ rfl
  | some fr=>
   rw[hfn]at skip1 skip;simp only at skip1 skip;by_cases hc:y.num<=fr
   ·try simp -implicitDefEqProofs (disch:=first|exact dsc|fail)[hc,b8]
    exact skip1 _ (by simp;omega)
   ·have hc':fr<y.num:=by omega
    try simp -implicitDefEqProofs (disch:=first|exact dsc|fail)[hc,e0,b8,n8]
    have hoky:=C5u hok y (by rw[he];simp)
    unfold spOk at hoky;refine C86 (k:=y) ((hI2.old o3).old (by repeat (first|exact Old.refl _|apply Old.alloc))) (by omega) (by unfold C2q;omega) ?_
    try simp -implicitDefEqProofs (disch:=first|exact dsc|fail)[mkFn,Value.oneCell',e2,n8]
    generalize hS4:((S3.alloc (.cells [.int .u64 fr] false)).alloc (.cells [.int .u64 ((B3z T y).getD 0)] false)).alloc (.cells [.bool (B3z T y).isSome] false)=S4;have o4:Old S3 S4:=by rw[<-hS4];exact(((Old.refl _).alloc).alloc).alloc
    have n4:S4.next=S2.next+4:=by rw[<-hS4];simp[n8]
    have g9:S4.heap (S2.next+1)=some (.cells [.int .u64 fr] false):=by rw[<-hS4];simp -implicitDefEqProofs (disch:=first|exact dsc|fail)[n8]
    have g11:S4.heap (S2.next+1+1)=some (.cells [.int .u64 ((B3z T y).getD 0)] false):=by rw[<-hS4];simp -implicitDefEqProofs (disch:=first|exact dsc|fail)[n8]
    have g12:S4.heap (S2.next+1+1+1)=some (.cells [.bool (B3z T y).isSome] false):=by rw[<-hS4];simp -implicitDefEqProofs (disch:=first|exact dsc|fail)[n8]
    clear hS4;have o5:=o3.trans o4;have b8':=(o4.eq (by omega)).trans b8
    have e4':=(o4.eq (by omega)).trans e4
    refine B6c (c:=fun p=>decide (fr<=p)&&decide (y.num<=p)&&(match B3z T y with|none=>true|some nx=>decide (p<nx))) (hv2.old o5) (by omega) (fun p hp Q hQ=>?_) ?_
    ·simp -implicitDefEqProofs (disch:=first|exact dsc|fail)[];refine F35 rfl ?_;cases hnx:B3z T y with
     | none=>
      rw[hnx]at hQ g11 g12;simp only at hQ;by_cases a1:fr<=p<;>by_cases a2:y.num<=p
      all_goals
       try simp -implicitDefEqProofs (disch:=first|exact dsc|fail)[g9,b8',g11,g12,a1,a2]
       simpa[a1,a2]using hQ
     | some nx=>
      rw[hnx]at hQ g11 g12;simp only at hQ;by_cases a1:fr<=p<;>by_cases a2:y.num<=p
      all_goals
       try simp -implicitDefEqProofs (disch:=first|exact dsc|fail)[g9,b8',g11,g12,a1,a2]
       simpa[a1,a2]using hQ
    ·by_cases hany:(pr.any fun p=>decide (fr<=p)&&decide (y.num<=p)&&(match B3z T y with|none=>true|some nx=>decide (p<nx)))=true
     ·rw[hany];have hS4:=o5.le
      try simp -implicitDefEqProofs (disch:=first|exact dsc|fail)[e4',b8']
      refine(q1.old o5).put (x:=()) rfl fun S5 r1 r2 r3=>?_
      try simp -implicitDefEqProofs (disch:=first|exact dsc|fail)[]
      refine hgo (fun _=>False) S5 ⟨_,r1,by have:=A7e (l:=l) (n:=y.num) (x:=());omega,fun m=>?_,rfl⟩ ⟨by omega,fun {b} hb hn=>?_⟩ (fun b h=>h.elim)
      ·have hp:A91 F T pr y=true:=by
        unfold A91;rw[hfn];simp only[hc',decide_true,Bool.true_and];exact hany
       rw[A8c,q3 m];refine Iff.trans ?_ (hex m).symm;constructor
       ·rintro(h|h)
        ·exact .inr ⟨h.symm,hp⟩
        ·exact .inl h
       ·rintro(h|⟨h,_⟩)
        ·exact .inr h
        ·exact .inl h.symm
      ·rw[r3 (fun e=>hn (.inl ⟨by omega,e⟩)),o5.eq hb]
     ·have hany':=Bool.not_eq_true _▸hany;rw[hany']
      try simp -implicitDefEqProofs (disch:=first|exact dsc|fail)[]
      exact skip S4 o5 (by rw[hany',Bool.and_false])
 ·obtain⟨l,q1,q2,q3,rfl⟩:=hR;have d4:=(hch.eq (b:=s.next+1+1+1+1) (by omega) (by omega)).trans c4
  rw[List.take_length]at q3;have hle2:=hch.le;have hlb:l.length<=200000:=by
   have hnd:=q1.nd;have:(ks l).length<=((List.range 100001).map (fun i:Nat=>(i:Int))).length:=A38 hnd (fun m hm=>by
    obtain⟨z,hz,rfl,_⟩:=(q3 m).1 hm;have:=C5u hok z hz;unfold spOk at this;exact List.mem_map.2 ⟨z.num.toNat,by simp;omega,by omega⟩)
   simp[ks]at this;omega
  try simp -implicitDefEqProofs (disch:=first|exact dsc|fail)[d4]
  refine B42 q1 (by omega) fun v5 S5 xs z1 z2 z3 z4=>?_
  try simp -implicitDefEqProofs (disch:=first|exact dsc|fail)[]
  exact A0a (hq v5 S5 xs (z1.from (oS.trans_chg hch (fun b hb e=>by omega))) (by omega) z3 (fun n=>(z4 n).trans (q3 n)))
theorem D71{ci cf x f:Nat}{T:Option AN}{F:List Twig}{v g:Value}{pr:List Int}{G:Int->Option A1k}(hI:A21 s o ci x T)(hF:ForC s o cf f F)(hv:(intE .u64).In s v pr)(hlen:pr.length<=200000)(hg:GetR X g s G)
  (hq:∀v S xs,(intE .u64).New s S v xs->xs.length<=1000000->xs.Pairwise (·<·)->(∀n,n∈xs↔(∃y∈A78 T,y.num=n/\A91 F T pr y=true)\/∃y∈A78 T,A91 F T pr y=true/\n∈A5k G 4 y.num)->Q v S):CC X 59 [.pointer (some ⟨x,0,none⟩),.pointer (some ⟨f,0,none⟩),v,g] Q s:=by
 refine G2k rfl ?_
 try simp -implicitDefEqProofs (disch:=first|exact dsc|fail)[]
 refine C3p hI hF hv hlen fun v2 S xs h1 h2 h3 h4=>?_
 try simp -implicitDefEqProofs (disch:=first|exact dsc|fail)[]
 refine D01 (hg.old h1.old_) h1.in_ h2 fun v3 S2 ys k1 k2 k3 k4=>?_
 try simp -implicitDefEqProofs (disch:=first|exact dsc|fail)[]
 refine A0a (hq v3 S2 ys (k1.from h1.old_) k2 k3 (fun n=>(k4 n).trans ?_))
 rw[h4 n];constructor
 ·rintro(h|⟨m,hm,h⟩)
  ·exact .inl h
  ·obtain⟨y,hy,rfl,hp⟩:=(h4 m).1 hm;exact .inr ⟨y,hy,hp,h⟩
 ·rintro(h|⟨y,hy,hp,h⟩)
  ·exact .inl h
  ·exact .inr ⟨y.num,(h4 _).2 ⟨y,hy,rfl,hp⟩,h⟩
theorem D1z{c t:Nat}{T:List Item}{u v:Value}{ks' pr:List Int}(hk:(intE .u64).In s u ks')(hv:(intE .u64).In s v pr)(hlen:ks'.length<=1000000)(hlen2:pr.length<=200000)(hT:TabC s o c t T)
  (hq:∀v S xs,(intE .u64).New s S v xs->xs.length<=2000000->xs.Pairwise (·<·)->(∀n,n∈xs↔n∈ks'\/∃p∈pr,n=p\/A81 T p=some n)->Q v S):CC X 26 [u,v,.pointer (some ⟨t,0,none⟩)] Q s:=by
 refine G8u rfl ?_
 try simp -implicitDefEqProofs (disch:=first|exact dsc|fail)[]
 refine E1s hk (by omega) fun m S l h1 h2 h3 h4 h5=>?_
 have hv1:=hv.old h4
 try simp -implicitDefEqProofs (disch:=first|exact dsc|fail)[hv1.len A0c]
 refine D84 fun I hI=>?_;refine up (n:=pr.length) (M:=fun i=>∀S2 l2,SetR .u64 S2 m l2->l2.length<=ks'.length+2*i->(∀n,n∈ks l2↔n∈ks'\/∃p∈pr.take i,n=p\/A81 T p=some n)->Chg S S2 (·=m)->I (.pointer (some ⟨t,0,none⟩)) (.map (some m)) v (.int .i64 pr.length) (.int .i64 i) S2) (fun i hi ih S2 l2 q1 q2 q3 q4=>?_) 0 (Nat.zero_le _) S l h1 (by omega) (fun n=>by rw[h3 n];simp) .refl
 refine hI _ _ _ _ _ _ ?_;have oS2:Old s S2:=h4.trans_chg q4 (fun b hb e=>by omega)
 have hv2:=hv.old oS2;by_cases hlt:i<pr.length
 ·try simp -implicitDefEqProofs (disch:=first|exact dsc|fail)[hlt,hv2.idx,hv2.one]
  refine q1.put (x:=()) rfl fun S3 r1 r2 r3=>?_
  try simp -implicitDefEqProofs (disch:=first|exact dsc|fail)[]
  have q5:Chg S S3 (·=m):=q4.trans ⟨by omega,fun {b} hb hn=>r3 hn⟩ (fun b hb=>.inl hb)
  have oS3:Old s S3:=h4.trans_chg q5 (fun b hb e=>by omega)
  obtain⟨ρ,hTab,_⟩:=hT.fd (d:=fun _=>False) oS3.fd (fun h=>h);refine B63 hTab ?_;have hl1:=A7e (l:=l2) (n:=pr[i]) (x:=());cases hn:A81 T pr[i]with
  | none=>
   try simp -implicitDefEqProofs (disch:=first|exact dsc|fail)[]
   refine ih hlt S3 _ r1 (by omega) (fun n=>?_) q5
   rw[A8c,q3 n,A2w hlt];simp only[List.mem_append,List.mem_singleton,or_and_right,exists_or,exists_eq_left,hn];constructor
   ·rintro(h|h|h)
    ·exact .inr (.inr (.inl h))
    ·exact .inl h
    ·exact .inr (.inl h)
   ·rintro(h|h|h|h)
    ·exact .inr (.inl h)
    ·exact .inr (.inr h)
    ·exact .inl h
    ·cases h
  | some w=>
   try simp -implicitDefEqProofs (disch:=first|exact dsc|fail)[]
   refine r1.put (x:=()) rfl fun S4 p1 p2 p3=>?_
   try simp -implicitDefEqProofs (disch:=first|exact dsc|fail)[]
   have hl2:=A7e (l:=mput l2 pr[i] ()) (n:=w) (x:=());refine ih hlt S4 _ p1 (by omega) (fun n=>?_) (q5.trans ⟨by omega,fun {b} hb hn=>p3 hn⟩ (fun b hb=>.inl hb))
   rw[A8c,A8c,q3 n,A2w hlt];simp only[List.mem_append,List.mem_singleton,or_and_right,exists_or,exists_eq_left,hn,Option.some.injEq];constructor
   ·rintro(h|h|h|h)
    ·exact .inr (.inr (.inr h.symm))
    ·exact .inr (.inr (.inl h))
    ·exact .inl h
    ·exact .inr (.inl h)
   ·rintro(h|h|h|h)
    ·exact .inr (.inr (.inl h))
    ·exact .inr (.inr (.inr h))
    ·exact .inr (.inl h)
    ·exact .inl h.symm
 ·have hie:i=pr.length:=by omega
  subst hie;rw[List.take_length]at q3
  try simp -implicitDefEqProofs (disch:=first|exact dsc|fail)[]
  refine B42 q1 (by omega) fun v5 S5 xs z1 z2 z3 z4=>?_
  try simp -implicitDefEqProofs (disch:=first|exact dsc|fail)[]
  exact A0a (hq v5 S5 xs (z1.from oS2) (by omega) z3 (fun n=>(z4 n).trans (q3 n)))
end
end Go.Zz
