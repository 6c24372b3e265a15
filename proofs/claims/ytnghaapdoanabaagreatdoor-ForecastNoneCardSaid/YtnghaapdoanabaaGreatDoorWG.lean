import Derived.Test.YtnghaapdoanabaaGreatDoorWF
set_option linter.all false
set_option maxRecDepth 20000
set_option linter.all false
namespace Go.Zz
open Go
variable {X : Y0}
structure LawM where
 T:List Item
 A:A64
 L:List PutM
 F:List Twig
def B4b(t b f:Nat)(sl:Value)(A:A64):List Value:=[.pointer (some ⟨t,0,none⟩),sl,.int .i64 A.never,.bool A.nevers,.pointer (some ⟨b,0,none⟩),.pointer (some ⟨f,0,none⟩)]
def lawV(t b f:Nat)(sl:Value)(A:A64):Value:=.agg #[.pointer (some ⟨t,0,none⟩),sl,.int .i64 A.never,.bool A.nevers,.pointer (some ⟨b,0,none⟩),.pointer (some ⟨f,0,none⟩)]
structure LawC(s:St)(o:Nat->Nat)(c t b f:Nat)(sl:Value)(M:LawM):Prop where
 tab:TabC s o (c+1) t M.T
 auto:B5c s o sl M.A
 book:A7r s o (c+2) b M.L
 forest:ForC s o (c+3) f M.F
theorem LawC.fd{s S:St}{o o':Nat->Nat}{d:Nat->Prop}{c t b f:Nat}{sl:Value}{M:LawM}(h:LawC s o c t b f sl M)(g:Fd s S o o' d)(h0:¬d 0)(h1:¬d (c+1))(h2:¬d (c+2))(h3:¬d (c+3)):LawC S o' c t b f sl M:=
 ⟨h.tab.fd g h1,h.auto.fd g h0,h.book.fd g h2,h.forest.fd g h3⟩
theorem LawC.old{s S:St}{o:Nat->Nat}{c t b f:Nat}{sl:Value}{M:LawM}(h:LawC s o c t b f sl M)(g:Old s S):LawC S o c t b f sl M:=
 h.fd (g.fd (c:=fun _=>False)) (fun h=>h) (fun h=>h) (fun h=>h) (fun h=>h)
def D2w(L:List PutM)(num min now:Int):Bool:=L.any fun p=>B6e min now p&&decide (num<p.num)
def C7j(F:List Twig)(n:Int):Bool:=(List.range 16).any fun(i:Nat)=>decide (i≠0)&&A2v F i&&decide ((twAt F i).base=n)
theorem D07{F:List Twig}{n:Int}:C7j F n=true↔F0i F n:=by
 simp only[C7j,F0i,List.any_eq_true,List.mem_range,Bool.and_eq_true,decide_eq_true_eq];exact⟨fun⟨i,h,⟨a,b⟩,c⟩=>⟨i,a,h,b,c⟩,fun⟨i,a,h,b,c⟩=>⟨i,h,⟨a,b⟩,c⟩⟩
def pHas(M:LawM)(num now:Int):Bool:=match tMin M.T num with
 | none=>false
 | some w=>!tOut M.T num&&(decide (A8g M.T=some num)||(B56 M.T M.A num now||D2w M.L num w now||C7j M.F num))
section
variable {s : St} {o : Nat → Nat} {c t b f : Nat} {sl : Value} {M : LawM} {num min now : Int} {Q : Post}
theorem D1v(h:LawC s o c t b f sl M)(hq:Q (.bool (D2w M.L num min now)) s):CC X 140 [lawV t b f sl M.A,.int .u64 num,.int .i64 min,.int .i64 now] Q s:=by
 refine F4y rfl ?_;obtain⟨ρk,hk,_⟩:=h.auto.own;have hd:=hk.in_.data
 try simp -implicitDefEqProofs (disch:=first|exact dsc|fail)[lawV,hd,mkFn,Value.oneCell']
 have o1:Old s ((s.alloc (.cells (B4b t b f sl M.A) false)).alloc (.cells [.int .u64 num] false)):=((Old.refl s).alloc).alloc;refine C9n (h.book.fd (o1.fd (c:=fun _=>False)) (fun h=>h)) fun v S hn=>?_;have hI:=hn.in_;have hlen:M.L.length<=64:=let ⟨_,_,_,_,_,g,_⟩:=h.book;g;have b2:S.heap (s.next+1)=some (.cells [.int .u64 num] false):=(hn.old_.eq (by simp)).trans St.alloc_self
 have hl:=hn.old_.le;simp only[St.alloc_next]at hl
 try simp -implicitDefEqProofs (disch:=first|exact dsc|fail)[mkFn,Value.oneCell']
 refine A8m (c:=fun p=>decide (num<p.num)) hI (Nat.lt_of_le_of_lt (List.length_filter_le _ _) (by omega)) (fun x hx Q hQ=>?_) ?_
 ·try simp -implicitDefEqProofs (disch:=first|exact dsc|fail)[]
  refine F0g rfl ?_
  try simp -implicitDefEqProofs (disch:=first|exact dsc|fail)[b2]
  exact A0b (by simp) (.bool _) hQ
 ·try simp -implicitDefEqProofs (disch:=first|exact dsc|fail)[]
  exact A0b (o1.trans hn.old_) (.bool _) hq
theorem D4n(h:LawC s o c t b f sl M)(hq:Q (.bool (pHas M num now)) s):CC X 101 [lawV t b f sl M.A,.int .u64 num,.int .i64 now] Q s:=by
 refine F7e rfl ?_;obtain⟨ρk,hk,_⟩:=h.auto.own;have hd:=hk.in_.data;have o1:Old s (s.alloc (.cells (B4b t b f sl M.A) false)):=(Old.refl s).alloc;have h1:=h.old o1;obtain⟨ρ,hT,_,_⟩:=h1.tab;unfold pHas at hq
 try simp -implicitDefEqProofs (disch:=first|exact dsc|fail)[lawV,hd]
 refine A9k hT ?_;cases hm:tMin M.T num with
 | none=>
  try simp -implicitDefEqProofs (disch:=first|exact dsc|fail)[hm]
  exact A0b o1 (.bool _) (by simpa[hm]using hq)
 | some w=>
  simp only[hm]at hq
  try simp -implicitDefEqProofs (disch:=first|exact dsc|fail)[hm]
  refine C2h hT ?_;by_cases g1:tOut M.T num=true
  ·try simp -implicitDefEqProofs (disch:=first|exact dsc|fail)[g1]
   exact A0b o1 (.bool _) (by simpa[g1]using hq)
  ·try simp -implicitDefEqProofs (disch:=first|exact dsc|fail)[g1]
   refine C84 hT ?_;by_cases g2:A8g M.T=some num
   ·try simp -implicitDefEqProofs (disch:=first|exact dsc|fail)[g2]
    exact A0b o1 (.bool _) (by simpa[g1,g2]using hq)
   ·have g5:(A8g M.T).isSome=true->¬(A8g M.T).getD 0=num:=by
     intro a b;cases hl:A8g M.T with
     | none=>rw[hl]at a;cases a
     | some x=>rw[hl]at b g2;exact g2 (by simpa using b)
    simp only[g1,g2,decide_false,Bool.false_or,Bool.not_false,Bool.true_and]at hq;have b1:(s.alloc (.cells (B4b t b f sl M.A) false)).heap s.next=some (.cells (B4b t b f sl M.A) false):=St.alloc_self
    by_cases g4:(A8g M.T).isSome=true
    all_goals
     try simp -implicitDefEqProofs (disch:=first|exact dsc|fail)[g4,g5]
     refine C44 h1.auto h1.tab (by omega) ?_
     by_cases k1:B56 M.T M.A num now=true
     ·try simp -implicitDefEqProofs (disch:=first|exact dsc|fail)[k1]
      exact A0b o1 (.bool _) (by simpa[k1]using hq)
     ·try simp -implicitDefEqProofs (disch:=first|exact dsc|fail)[k1]
      refine D1v h1 ?_;by_cases k2:D2w M.L num w now=true
      ·try simp -implicitDefEqProofs (disch:=first|exact dsc|fail)[k1,k2]
       exact A0b o1 (.bool _) (by simpa[k1,k2]using hq)
      ·try simp -implicitDefEqProofs (disch:=first|exact dsc|fail)[k1,k2]
       refine C4j h1.forest fun v S xs hn hl hx=>?_
       try simp -implicitDefEqProofs (disch:=first|exact dsc|fail)[]
       refine B7x hn.in_ (by omega) ?_
       try simp -implicitDefEqProofs (disch:=first|exact dsc|fail)[]
       refine A0b (o1.trans hn.old_) (.bool _) ?_;have:decide (num∈xs)=C7j M.F num:=by rw[Bool.eq_iff_iff,D07,<-hx num];simp
       rw[this];simpa[k1,k2]using hq
theorem D9q{s1:St}{o:Nat->Nat}{t bx c:Nat}{T:List Item}{L1:List Value}{ps:Array Tmp}{ag bd:Code}{K:A0l}{A:Fr}{cc:Nat->Prop}{R:Nat->(Nat->Prop)->St->Prop}{B:Int->Int->Post->St->Prop}(h:TabC s1 o c t T)(hx:Blk s1 bx [.pointer (some ⟨t,0,none⟩)])
  (hR:∀i,Stab s1.next (R i)) (hY:∀(n m:Int) Q s',s1.next<s'.next->s'.heap s1.next=some (.loop L1 ps ag bd .ready none)->(s'.heap s1.next=some (.loop L1 ps ag bd .ready none)/\B n m Q (s'.put s1.next (.loop L1 ps ag bd .busy none)))->CC X (tok s1.next) [.int .u64 n,.int .i64 m] Q s')
  (hB:∀i (hi:i<T.length),Body s1 (.loop L1 ps ag bd .busy none) (.loop L1 ps ag bd .ready none) cc (R i) (R (i+1)) (B T[i].num T[i].min))
  (h0:R 0 (fun _=>False) s1) (hk:∀M S,R T.length M S->Chg s1 S cc->(∀b,M b->s1.next<b/\b<S.next)->K .normal A S) :
  A96 P (CC X) (.func (.func 115) #[] #[.pointer (some ⟨bx,0,none⟩)]) s1.next (fun _ s'=>rfK s1.next K A s') (s1.alloc (.loop L1 ps ag bd .ready none)):=by
 obtain⟨ρ,hT,_,_⟩:=h;have hxl:=hx.lt;refine⟨rfl,by simp,?_⟩
 refine C8i (t:=t) (ρ:=ρ) (T:=T) (n0:=s1.next+1) (J:=fun i=>JX s1 (.loop L1 ps ag bd .ready none) cc (R i)) (D:=fun _ _=>False) (hT.old (by simp)) (by rw[St.alloc_old hxl];exact hx.eq) (by simp) (fun i=>JX.looper (hR i)) (fun i hi=>JX.round (hR i) (hR (i+1)) (hY _ _) (hB i hi)) (JX.start (hR 0) h0) (fun M S hJ=>hJ.done (hR T.length) (hk M)) (fun M S h=>h.elim)
theorem D3v(h:LawC s o c t b f sl M)(hq:∀v S,(intE .u64).New s S v ((M.T.map (·.num)).filter fun n=>pHas M n now)->Q v S):CC X 61 [lawV t b f sl M.A,.int .i64 now] Q s:=by
 refine G5f rfl ?_;obtain⟨ρk,hk,_⟩:=h.auto.own;have hd:=hk.in_.data;have hTlen:M.T.length<=65535:=let ⟨_,hT,_,_⟩:=h.tab;hT.ok.len
 try simp -implicitDefEqProofs (disch:=first|exact dsc|fail)[lawV,hd,mkFn]
 generalize hs1:(((s.alloc (.cells [.pointer (some ⟨t,0,none⟩),sl,.int .i64 M.A.never,.bool M.A.nevers,.pointer (some ⟨b,0,none⟩),.pointer (some ⟨f,0,none⟩)] false)).alloc (.cells [.int .i64 now] false)).alloc (.cells [.func (.func 101) #[.agg #[.pointer (some ⟨t,0,none⟩),sl,.int .i64 M.A.never,.bool M.A.nevers,.pointer (some ⟨b,0,none⟩),.pointer (some ⟨f,0,none⟩)]] #[]] false)).alloc (.cells [.slice none 0 0] false)=s1;have o1:Old s s1:=by subst hs1;exact((((Old.refl s).alloc).alloc).alloc).alloc
 have n1:s1.next=s.next+1+1+1+1:=by subst hs1;simp
 have b1:s1.heap (s.next+1)=some (.cells [.int .i64 now] false):=by
  subst hs1;exact(St.alloc_old (by simp only[St.alloc_next];omega)).trans ((St.alloc_old (by simp only[St.alloc_next];omega)).trans St.alloc_self)
 have b2:s1.heap (s.next+1+1)=some (.cells [.func (.func 101) #[lawV t b f sl M.A] #[]] false):=by
  subst hs1;exact(St.alloc_old (by simp only[St.alloc_next];omega)).trans St.alloc_self
 have b3:s1.heap (s.next+1+1+1)=some (.cells [.slice none 0 0] false):=by
  subst hs1;exact St.alloc_self
 clear hs1;refine C2p fun bx S hbx ho hbn=>?_
 try simp -implicitDefEqProofs (disch:=first|exact dsc|fail)[]
 refine B98 fun hY=>?_;have hn:=ho.le;have oS:=o1.trans ho;have c1:=(ho.eq (b:=s.next+1) (by omega)).trans b1
 have c2:=(ho.eq (b:=s.next+1+1) (by omega)).trans b2
 have c3:=(ho.eq (b:=s.next+1+1+1) (by omega)).trans b3
 have hL:=h.old oS;refine D9q (cc:=(·=s.next+1+1+1)) (R:=fun i=>Coll (intE .u64) (s.next+1+1+1) (fun xs=>xs=((M.T.take i).map (·.num)).filter fun n=>pHas M n now)) hL.tab hbx (fun i=>Coll.stab (by omega)) (fun n m Q s' _ h1 h2=>hY _ _ _ _ h1 h2) (fun i hi Mb S2 Q2 hR hch hyn hM hgo=>?_) (Coll.start c3 (by simp)) (fun Mb S2 hR hch hM=>?_)
 ·obtain⟨v,ρ,xs,h1,h2,rfl,rfl⟩:=hR;have d1:=(hch.eq (b:=s.next+1) (by omega) (by omega)).trans c1
  have d2:=(hch.eq (b:=s.next+1+1) (by omega) (by omega)).trans c2
  have htk:M.T.take (i+1)=M.T.take i++[M.T[i]]:=(List.take_append_getElem hi).symm;have hxl:(((M.T.take i).map (·.num)).filter fun n=>pHas M n now).length<=65535:=Nat.le_trans (List.length_filter_le _ _) (by simp;omega)
  have hL2:LawC S2 (tint o s.next (c+4)) c t b f sl M:=(h.fd (oS.tint (k:=c+4) (c:=fun _=>False)) (fun h=>h) (fun h=>h) (fun h=>h) (fun h=>h)).fd (S:=S2) (o':=tint o s.next (c+4)) (d:=(·=c+4)) ⟨hch.mono (fun b e=>by rw[e];exact A0d (by omega)),fun _=>rfl⟩ (by omega) (by omega) (by omega) (by omega)
  try simp -implicitDefEqProofs (disch:=first|exact dsc|fail)[d1,d2]
  refine D4n hL2 ?_;by_cases hp:pHas M M.T[i].num now=true
  ·try simp -implicitDefEqProofs (disch:=first|exact dsc|fail)[hp,h1]
   refine h2.push (a:=M.T[i].num) A1o A2m (by simp) (by simp) (by omega) (by omega) fun v' S3 ρ' w1 w2 w3=>?_
   have hb33:S3.heap (s.next+1+1+1)=some (.cells [v] false):=by
    rw[w2.eq (by omega) (fun e=>by have:=hM _ e;omega)];exact h1
   try simp -implicitDefEqProofs (disch:=first|exact dsc|fail)[hb33,w1.in_.data]
   have:=Coll.step (p:=fun xs=>xs=((M.T.take (i+1)).map (·.num)).filter fun n=>pHas M n now) (c:=(·=s.next+1+1+1)) (y:=S.next) (by omega) rfl hyn hM w1 w2 w3 (by rw[htk,List.map_append,List.filter_append];simp[hp])
   obtain⟨g1,g2⟩:=hgo _ _ this.1 this.2.1 this.2.2;rw[St.put_other (by omega)]at g1
   exact⟨g1,g2⟩
  ·try simp -implicitDefEqProofs (disch:=first|exact dsc|fail)[hp]
   exact hgo _ S2 ⟨v,ρ,_,h1,h2,rfl,by rw[htk,List.map_append,List.filter_append];simp[hp]⟩ .refl (fun b h=>.inl h)
 ·obtain⟨v,ρ,xs,h1,h2,rfl,h3⟩:=hR
  try simp -implicitDefEqProofs (disch:=first|exact dsc|fail)[h1]
  rw[List.take_of_length_le (Nat.le_refl _)]at h3;subst h3;exact A0a (hq v S2 ⟨ρ,h2,oS.trans_chg hch (fun r hr e=>by omega),fun r hr=>by have:=hM r hr;omega⟩)
end
theorem C2o{s:St}{b:Nat}{l:List (Int×Unit)}{fv:Value}{del:Int->Bool}{Q:Post}(hm:SetR .i64 s b l)(hf:∀n Q S,Chg s S (·=b)->Q (.bool (del n)) S->A0u P (CC X) fv [.int .i64 n,.bool true] Q S)
  (hq:∀S l',SetR .i64 S b l'->(∀x,x∈l'↔x∈l/\del x.1=false)->Chg s S (·=b)->Q (.tuple #[]) S):CC X 79 [.map (some b),fv] Q s:=by
 refine G13 rfl ?_
 try simp -implicitDefEqProofs (disch:=first|exact dsc|fail)[]
 have hbn:=hm.lt;refine A6f.start hm fun S1 hi hn1 ho=>?_
 try simp -implicitDefEqProofs (disch:=first|exact dsc|fail)[]
 refine D5u fun I hI=>?_;have key:∀r todo lc S cur,todo.length<=r->todo.Nodup->A6f .i64 (fun _:Unit=>.bool true) S s.next b lc todo cur->Chg s S (·=b)->(∀x,x∈lc->x∈l/\(x∈todo\/del x.1=false))->(∀x,x∈l->del x.1=false->x∈lc)->I (.map (some b)) fv (.pointer (some ⟨s.next,0,none⟩)) S:=by
  intro r;induction r with
  | zero=>
   intro todo lc S cur hr hnd hit hch h1 h2;have ht:todo=[]:=List.length_eq_zero_iff.1 (by omega)
   subst ht;refine hI _ _ _ _ ?_
   try simp -implicitDefEqProofs (disch:=first|exact dsc|fail)[]
   refine hit.next hnd (fun p hp t1 t2 e=>absurd e (by simp)) (fun hd=>?_)
   try simp -implicitDefEqProofs (disch:=first|exact dsc|fail)[]
   exact A0a (hq S lc hit.map (fun x=>⟨fun h=>⟨(h1 x h).1,(h1 x h).2.elim (fun h=>absurd h (by simp)) id⟩,fun h=>h2 x h.1 h.2⟩) hch)
  | succ r ih=>
   intro todo lc S cur hr hnd hit hch h1 h2;refine hI _ _ _ _ ?_
   try simp -implicitDefEqProofs (disch:=first|exact dsc|fail)[]
   refine hit.next hnd (fun p hp t1 t2 e S2 hit2 hn2 he2=>?_) (fun hd=>?_)
   ·subst e;have hnd2:(t1++t2).Nodup:=hnd.sublist (List.Sublist.append (List.Sublist.refl _) (List.sublist_cons_self _ _));have hch2:Chg s S2 (·=b):=⟨by have:=hch.le;omega,fun {x} hx hxb=>(he2 (by omega)).trans (hch.eq hx hxb)⟩
    try simp -implicitDefEqProofs (disch:=first|exact dsc|fail)[]
    refine hit2.entry ?_
    try simp -implicitDefEqProofs (disch:=first|exact dsc|fail)[]
    refine hf p.1 _ S2 hch2 ?_;by_cases hdel:del p.1=true
    ·try simp -implicitDefEqProofs (disch:=first|exact dsc|fail)[hdel]
     refine hit2.del (by omega) fun S3 l' hit3 hl' hn3 he3=>?_
     try simp -implicitDefEqProofs (disch:=first|exact dsc|fail)[]
     refine ih (t1++t2) l' S3 none (by simp at hr ⊢;omega) hnd2 hit3 ⟨by have:=hch2.le;omega,fun {x} hx hxb=>(he3 hxb).trans (hch2.eq hx hxb)⟩ (fun x hx=>?_) (fun x hx hd=>?_)
     ·obtain⟨a,c⟩:=(hl' x).1 hx;refine⟨(h1 x a).1,(h1 x a).2.imp (fun h=>?_) id⟩;simp only[List.mem_append,List.mem_cons]at h ⊢;rcases h with h|h|h
      ·exact .inl h
      ·exact absurd h c
      ·exact .inr h
     ·exact(hl' x).2 ⟨h2 x hx hd,fun e=>by rw[e,hdel]at hd;cases hd⟩
    ·try simp -implicitDefEqProofs (disch:=first|exact dsc|fail)[hdel]
     refine ih (t1++t2) lc S2 (some p) (by simp at hr ⊢;omega) hnd2 hit2 hch2 (fun x hx=>?_) h2
     refine⟨(h1 x hx).1,?_⟩;by_cases e:x=p
     ·subst e;exact .inr (by simpa using hdel)
     ·refine(h1 x hx).2.imp (fun h=>?_) id;simp only[List.mem_append,List.mem_cons]at h ⊢;rcases h with h|h|h
      ·exact .inl h
      ·exact absurd h e
      ·exact .inr h
   ·try simp -implicitDefEqProofs (disch:=first|exact dsc|fail)[]
    exact A0a (hq S lc hit.map (fun x=>⟨fun h=>⟨(h1 x h).1,(h1 x h).2.elim (fun ht=>absurd ht (hd x h)) id⟩,fun h=>h2 x h.1 h.2⟩) hch)
 exact key l.length l l S1 none (Nat.le_refl _) (List.Pairwise.of_map _ (fun a b hab e=>hab (by rw[e])) hm.nd) hi ho.chg (fun x hx=>⟨hx,.inl hx⟩) (fun x hx _=>hx)
def MSet(q:IntKind)(mb n:Nat)(p:Int->Prop)(M:Nat->Prop)(S:St):Prop:=∃l,SetR q S mb l/\l.length<=n/\(∀m,m∈ks l↔p m)/\M=(fun _=>False)
theorem MSet.stab{q:IntKind}{mb n y:Nat}{p:Int->Prop}(h:mb<y):Stab y (MSet q mb n p):=by
 rintro M S S' ⟨l,h1,h2,h3,rfl⟩ hn he;obtain⟨bs,c,g1,g2⟩:=h1.eq;exact⟨l,⟨Nat.lt_of_lt_of_le h1.lt hn,⟨bs,c,(he mb (.inl h)).trans g1,g2⟩,h1.nd⟩,h2,h3,rfl⟩
theorem A7e{α:Type}{l:List (Int×α)}{n:Int}{x:α}:(mput l n x).length<=l.length+1:=by
 unfold mput;split<;>simp
def D0w(M:LawM)(m:Int):Prop:=(∃x∈M.T,tOut M.T x.num=false/\m∈A8r M.T M.A x.num)\/∃p∈M.L,m=p.until_
section
variable {s : St} {o : Nat → Nat} {c t b f : Nat} {sl : Value} {M : LawM} {now : Int} {Q : Post}
theorem C8j(h:LawC s o c t b f sl M)(hq:∀v S xs,(intE .i64).New s S v xs->xs.length<16000000->xs.Pairwise (·<·)->(∀m,m∈xs↔now<m/\D0w M m)->Q v S):CC X 46 [lawV t b f sl M.A,.int .i64 now] Q s:=by
 refine G77 rfl ?_;obtain⟨ρk,hk,_⟩:=h.auto.own;have hd:=hk.in_.data;have hTlen:M.T.length<=65535:=let ⟨_,hT,_,_⟩:=h.tab;hT.ok.len;have hLlen:M.L.length<=64:=let ⟨_,_,_,_,_,g,_⟩:=h.book;g
 try simp -implicitDefEqProofs (disch:=first|exact dsc|fail)[lawV,hd,mapN]
 generalize hs1:(((s.alloc (.cells [.pointer (some ⟨t,0,none⟩),sl,.int .i64 M.A.never,.bool M.A.nevers,.pointer (some ⟨b,0,none⟩),.pointer (some ⟨f,0,none⟩)] false)).alloc (.cells [.int .i64 now] false)).alloc (.map [] [] 0)).alloc (.cells [.map (some (s.next+1+1))] false)=s1
 have o1:Old s s1:=by subst hs1;exact((((Old.refl s).alloc).alloc).alloc).alloc
 have n1:s1.next=s.next+1+1+1+1:=by subst hs1;simp
 have b0:s1.heap s.next=some (.cells [.pointer (some ⟨t,0,none⟩),sl,.int .i64 M.A.never,.bool M.A.nevers,.pointer (some ⟨b,0,none⟩),.pointer (some ⟨f,0,none⟩)] false):=by
  subst hs1;exact(St.alloc_old (by simp only[St.alloc_next];omega)).trans ((St.alloc_old (by simp only[St.alloc_next];omega)).trans ((St.alloc_old (by simp only[St.alloc_next];omega)).trans St.alloc_self))
 have b1:s1.heap (s.next+1)=some (.cells [.int .i64 now] false):=by
  subst hs1;exact(St.alloc_old (by simp only[St.alloc_next];omega)).trans ((St.alloc_old (by simp only[St.alloc_next];omega)).trans St.alloc_self)
 have b2:s1.heap (s.next+1+1)=some (.map [] [] 0):=by
  subst hs1;exact(St.alloc_old (by simp only[St.alloc_next];omega)).trans St.alloc_self
 have b3:s1.heap (s.next+1+1+1)=some (.cells [.map (some (s.next+1+1))] false):=by
  subst hs1;exact St.alloc_self
 clear hs1;refine C2p fun bx S hbx ho hbn=>?_
 try simp -implicitDefEqProofs (disch:=first|exact dsc|fail)[]
 refine C0m fun hY=>?_;have hn:=ho.le;have oS:=o1.trans ho;have c0:=(ho.eq (b:=s.next) (by omega)).trans b0
 have c1:=(ho.eq (b:=s.next+1) (by omega)).trans b1
 have c2:=(ho.eq (b:=s.next+1+1) (by omega)).trans b2
 have c3:=(ho.eq (b:=s.next+1+1+1) (by omega)).trans b3
 have hL:=h.old oS;have hm0:SetR .i64 S (s.next+1+1) []:=⟨by omega,⟨[],0,c2,rfl,by simp,by simp⟩,by simp⟩
 have hfr:∀S2,Chg S S2 (·=s.next+1+1)->LawC S2 (tint o s.next (c+4)) c t b f sl M:=fun S2 hch=>(h.fd (oS.tint (k:=c+4) (c:=fun _=>False)) (fun h=>h) (fun h=>h) (fun h=>h) (fun h=>h)).fd (S:=S2) (o':=tint o s.next (c+4)) (d:=(·=c+4)) ⟨hch.mono (fun b e=>by rw[e];exact A0d (by omega)),fun _=>rfl⟩ (by omega) (by omega) (by omega) (by omega)
 refine D9q (cc:=(·=s.next+1+1)) (R:=fun i=>MSet .i64 (s.next+1+1) (16*i) (fun m=>∃x∈M.T.take i,tOut M.T x.num=false/\m∈A8r M.T M.A x.num)) hL.tab hbx (fun i=>MSet.stab (by omega)) (fun n m Q s' _ h1 h2=>hY _ _ _ _ h1 h2) (fun i hi Mb S2 Q2 hR hch hyn hM hgo=>?_) ⟨[],hm0,by simp,by simp[ks],rfl⟩ (fun Mb S2 hR hch hM=>?_)
 ·obtain⟨l,h1,h2,h3,rfl⟩:=hR;have d0:=(hch.eq (b:=s.next) (by omega) (by omega)).trans c0
  have d3:=(hch.eq (b:=s.next+1+1+1) (by omega) (by omega)).trans c3
  have htk:M.T.take (i+1)=M.T.take i++[M.T[i]]:=(List.take_append_getElem hi).symm;have hL2:=hfr S2 hch;obtain⟨ρt,hT2,_,_⟩:=hL2.tab
  try simp -implicitDefEqProofs (disch:=first|exact dsc|fail)[d0]
  refine C2h hT2 ?_;have hex:∀m,(∃x∈M.T.take (i+1),tOut M.T x.num=false/\m∈A8r M.T M.A x.num)↔(∃x∈M.T.take i,tOut M.T x.num=false/\m∈A8r M.T M.A x.num)\/(tOut M.T M.T[i].num=false/\m∈A8r M.T M.A M.T[i].num):=by
   intro m;rw[htk];constructor
   ·rintro⟨x,hx,e⟩;rcases List.mem_append.1 hx with hx|hx
    ·exact .inl ⟨x,hx,e⟩
    ·rw[List.mem_singleton.1 hx]at e;exact .inr e
   ·rintro(⟨x,hx,e⟩|e)
    ·exact⟨x,List.mem_append.2 (.inl hx),e⟩
    ·exact⟨_,List.mem_append.2 (.inr (List.mem_singleton.2 rfl)),e⟩
  by_cases hp:tOut M.T M.T[i].num=true
  ·try simp -implicitDefEqProofs (disch:=first|exact dsc|fail)[hp]
   exact hgo _ S2 ⟨l,h1,by omega,fun m=>(h3 m).trans ((hex m).trans (by simp[hp])).symm,rfl⟩ .refl (fun b h=>.inl h)
  ·try simp -implicitDefEqProofs (disch:=first|exact dsc|fail)[hp,d0]
   refine B8a hL2.auto hL2.tab (by omega) fun v S3 xs hn3 hl3 hs3 hx3=>?_
   obtain⟨ρ3,w1,w2,w3⟩:=hn3;have hlv:=w1.in_.len (P:=P) (s':=S3) A00;have hw2:=w2.le
   try simp -implicitDefEqProofs (disch:=first|exact dsc|fail)[hlv]
   refine D3e fun I hI=>?_;refine up (n:=xs.length) (M:=fun j=>∀S4 l4,Chg S3 S4 (·=s.next+1+1)->SetR .i64 S4 (s.next+1+1) l4->l4.length<=16*i+j->(∀m,m∈ks l4↔(∃x∈M.T.take i,tOut M.T x.num=false/\m∈A8r M.T M.A x.num)\/m∈xs.take j)->I (.pointer (some ⟨s.next+1+1+1,0,none⟩)) v (.int .i64 xs.length) (.int .i64 j) S4) (fun j hj ih S4 l4 q1 q2 q3 q4=>?_) 0 (Nat.zero_le _) S3 l .refl (h1.old w2) (by omega) (fun m=>by rw[h3 m];simp)
   refine hI _ _ _ _ _ ?_;by_cases hlt:j<xs.length
   ·have hI4:=(w1.same (s':=S4) q1.le (fun r hr=>q1.eq (by subst hr;exact w1.lt) (by have:=w3 r hr;omega))).in_
    have d3':S4.heap (s.next+1+1+1)=some (.cells [.map (some (s.next+1+1))] false):=by rw[q1.eq (by omega) (by omega),w2.eq (by omega)];exact d3
    have htj:xs.take (j+1)=xs.take j++[xs[j]]:=(List.take_append_getElem hlt).symm
    try simp -implicitDefEqProofs (disch:=first|exact dsc|fail)[hlt,hI4.idx,hI4.one,d3']
    refine q2.put (x:=()) rfl fun S5 r1 r2 r3=>?_
    try simp -implicitDefEqProofs (disch:=first|exact dsc|fail)[]
    have:=ih hlt S5 _ (q1.trans ⟨by omega,fun {x} hx hn=>r3 hn⟩ (fun b hb=>.inl hb)) r1 (by have:=A7e (l:=l4) (n:=xs[j]) (x:=());omega) (fun m=>by
     rw[A8c,q4 m,htj,List.mem_append,List.mem_singleton];constructor
     ·rintro(h|h|h)
      ·exact .inr (.inr h)
      ·exact .inl h
      ·exact .inr (.inl h)
     ·rintro(h|h|h)
      ·exact .inr (.inl h)
      ·exact .inr (.inr h)
      ·exact .inl h)
    simpa using this
   ·try simp -implicitDefEqProofs (disch:=first|exact dsc|fail)[hlt]
    have hje:j=xs.length:=by omega
    exact hgo _ S4 ⟨l4,q2,by omega,fun m=>(q4 m).trans ((hex m).trans (by rw[hje,List.take_length,hx3 m];simp[hp])).symm,rfl⟩ (((w2.chg (M:=fun b=>b<S.next/\b=s.next+1+1\/False)).trans q1 (fun b hb=>.inl (.inl ⟨by omega,hb⟩)))) (fun b h=>.inl h)
 ·obtain⟨l,h1,h2,h3,rfl⟩:=hR;have d0:=(hch.eq (b:=s.next) (by omega) (by omega)).trans c0
  have d1:=(hch.eq (b:=s.next+1) (by omega) (by omega)).trans c1
  have d3:=(hch.eq (b:=s.next+1+1+1) (by omega) (by omega)).trans c3
  rw[List.take_length]at h3;have hle2:=hch.le
  try simp -implicitDefEqProofs (disch:=first|exact dsc|fail)[d0]
  refine B1x fun bx2 S3 hbx2 ho3 hbn2=>?_
  try simp -implicitDefEqProofs (disch:=first|exact dsc|fail)[]
  refine B8o fun hY2=>?_;have hle3:=ho3.le;have hch3:Chg S S3 (·=s.next+1+1):=hch.trans ho3.chg (N:=fun _=>False) (fun b h=>h.elim)
  have hL3:=hfr S3 hch3;have e1:=(ho3.eq (b:=s.next+1) (by omega)).trans d1
  have e3:=(ho3.eq (b:=s.next+1+1+1) (by omega)).trans d3
  refine B99 (B:=fun p Q S'=>B2s (CC X) Q S3.next (A9g (.pointer (some ⟨s.next+1,0,none⟩)) (.pointer (some ⟨s.next+1+1+1,0,none⟩))) (.pointer (some ⟨s.next+1+1+1,0,none⟩)) (.pointer (some ⟨S'.next,0,none⟩)) (S'.alloc (.cells (putE.cells p) false))) (cc:=(·=s.next+1+1)) (R:=fun i=>MSet .i64 (s.next+1+1) (16*65535+i) (fun m=>(∃x∈M.T,tOut M.T x.num=false/\m∈A8r M.T M.A x.num)\/∃p∈M.L.take i,m=p.until_)) hL3.book hbx2 (fun r hr e=>?_) (fun i=>MSet.stab (by omega)) (fun p Q s' hlt h1 h2=>hY2 _ _ _ h1 ?_) (fun i hi Mb S4 Q4 hR hch4 hyn4 hM4 hgo=>?_) ⟨l,h1.old ho3,by omega,fun m=>by rw[h3 m];simp,rfl⟩ (fun Mb S4 hR hch4 hM4=>?_)
  ·rw[e,A0d (by omega)]at hr
   omega
  ·simp -implicitDefEqProofs [-B2s,putV];rw[St.alloc_put hlt];exact⟨(St.alloc_old hlt).trans h1,h2.2⟩
  ·obtain⟨l4,q1,q2,q3,rfl⟩:=hR;have g3:=(hch4.eq (b:=s.next+1+1+1) (by omega) (by omega)).trans e3
   have htk:M.L.take (i+1)=M.L.take i++[M.L[i]]:=(List.take_append_getElem hi).symm
   try simp -implicitDefEqProofs (disch:=first|exact dsc|fail)[g3]
   refine(q1.old (S:=S4.alloc (.cells (putE.cells M.L[i]) false)) (by simp)).put (x:=()) rfl fun S5 r1 r2 r3=>?_
   try simp -implicitDefEqProofs (disch:=first|exact dsc|fail)[]
   refine hgo (fun _=>False) S5 ⟨_,r1,by have:=A7e (l:=l4) (n:=M.L[i].until_) (x:=());omega,fun m=>?_,rfl⟩ ⟨by simp at r2;omega,fun {x} hx hn=>?_⟩ (fun _ h=>h.elim)
   ·rw[A8c,q3 m,htk];simp only[List.mem_append,List.mem_singleton,or_and_right,exists_or,exists_eq_left];constructor
    ·rintro(h|h|h)
     ·exact .inr (.inr h)
     ·exact .inl h
     ·exact .inr (.inl h)
    ·rintro(h|h|h)
     ·exact .inr (.inl h)
     ·exact .inr (.inr h)
     ·exact .inl h
   ·rw[r3 (fun e=>hn (.inl ⟨by omega,e⟩)),St.alloc_old hx]
  ·obtain⟨l4,q1,q2,q3,rfl⟩:=hR;have hle4:=hch4.le;have g1:=(hch4.eq (b:=s.next+1) (by omega) (by omega)).trans e1
   have g3:=(hch4.eq (b:=s.next+1+1+1) (by omega) (by omega)).trans e3
   rw[List.take_length]at q3
   try simp -implicitDefEqProofs (disch:=first|exact dsc|fail)[g3,mkFn,Value.oneCell']
   refine C2o (del:=fun m=>decide (m<=now)) q1 (fun n Q S5 h5 hQ=>?_) (fun S5 l5 k1 k2 k3=>?_)
   ·have hle5:=h5.le;have g1':=(h5.eq (b:=s.next+1) (by omega) (by omega)).trans g1
    try simp -implicitDefEqProofs (disch:=first|exact dsc|fail)[]
    refine G4m rfl ?_
    try simp -implicitDefEqProofs (disch:=first|exact dsc|fail)[g1']
    exact hQ
   ·have hle5:=k3.le;have g3':=(k3.eq (b:=s.next+1+1+1) (by omega) (by omega)).trans g3
    try simp -implicitDefEqProofs (disch:=first|exact dsc|fail)[g3']
    refine G6w fun bx5 S6 y1 y2 y3=>?_
    try simp -implicitDefEqProofs (disch:=first|exact dsc|fail)[]
    have hl5:l5.length<=l4.length:=A38 (List.Pairwise.of_map _ (fun a b hab e=>hab (by rw[e])) k1.nd) (fun x hx=>((k2 x).1 hx).1)
    refine E3u (k1.old y2) y1 (by omega) fun v S7 xs z1 z2 z3=>?_
    try simp -implicitDefEqProofs (disch:=first|exact dsc|fail)[]
    obtain⟨ρ7,a1,a2,a3⟩:=z1;have hle6:=y2.le;have oT:Old s S7:=((((oS.trans_chg hch3 (fun b hb e=>by omega)).trans_chg hch4 (fun b hb e=>by omega)).trans_chg k3 (fun b hb e=>by omega)).trans y2).trans a2
    refine A0a (hq v S7 xs ⟨ρ7,a1,oT,fun r hr=>by have:=a3 r hr;omega⟩ (by have:=z2.length_eq;simp[ks]at this;omega) z3 (fun m=>?_))
    rw[z2.mem_iff,show D0w M m↔m∈ks l4 from(q3 m).symm]
    unfold ks;simp only[List.mem_map];constructor
    ·rintro⟨x,hx,rfl⟩;obtain⟨b1,b2⟩:=(k2 x).1 hx;exact⟨by simpa using b2,x,b1,rfl⟩
    ·rintro⟨h1,x,hx,rfl⟩;exact⟨x,(k2 x).2 ⟨hx,by simpa using h1⟩,rfl⟩
end
end Go.Zz
