import Derived.Test.YtnghaapdoanabaaGreatDoorWJ
set_option linter.all false
set_option maxRecDepth 20000
set_option linter.all false
namespace Go.Zz
open Go
variable {X : Y0}
def Im{α:Type}{w:Nat}(E:Enc α w)(s:St)(o:Nat->Nat)(v:Value)(xs:List α):Prop:=E.In s v xs/\(xs≠[]->∀a l c,v=.slice (some a) l c->o a.block=0)
section
variable {α : Type} {w : Nat} {E : Enc α w} {s S : St} {o o' : Nat → Nat} {v : Value} {xs : List α} {d : Nat → Prop}
theorem Im.nil:Im E s o (.slice none 0 0) []:=⟨.nil,fun h=>absurd rfl h⟩
theorem Im.fd(h:Im E s o v xs)(g:Fd s S o o' d)(hd:¬d 0):Im E S o' v xs:=by
 obtain⟨h1,h2⟩:=h;by_cases hx:xs=[]
 ·subst hx;refine⟨⟨?_,h1.bel.up g.chg.le,h1.cap⟩,fun h=>absurd rfl h⟩;have:=h1.sl;cases this with
  | nil=>exact .nil
  | row=>exact .empty
  | empty=>exact .empty
 ·refine⟨h1.chg g.chg (fun a l c e=>by rw[h2 hx a l c e];exact hd),fun _ a l c e=>(g.col ?_).trans (h2 hx a l c e)⟩
  have:=h1.bel;rw[e]at this;simpa using this
theorem Im.old(h:Im E s o v xs)(g:Old s S):Im E S o v xs:=h.fd (d:=fun _=>False) g.fd (fun h=>h)
theorem Enc.New.im(h:E.New s S v xs):Im E S (tint o s.next 0) v xs:=by
 obtain⟨ρ,h1,h2,h3⟩:=h;refine⟨h1.in_,fun hx a l c e=>?_⟩;obtain⟨b,c',post,tl,rfl,rfl,_⟩:=h1.ne hx;cases e;exact A0d (h3 b rfl)
theorem Im.part{P:Program}{t e:TypeId}{lo hi:Option Value}(h:Im E s o v xs)(ht:P.underlying t=some (.slice e))(hz:A08 P e=some w)
  (hlo:okb lo/\okb hi/\bnd lo 0<=bnd hi xs.length/\bnd hi xs.length<=xs.length):slcV P t v lo hi none s=some (A5c w v (bnd lo 0) (bnd hi xs.length)):=h.1.part ht hz hlo
theorem Im.part_in{lo hi:Nat}(h:Im E s o v xs)(h1:lo<=hi)(h2:hi<=xs.length):Im E s o (A5c w v lo hi) ((xs.drop lo).take (hi-lo)):=by
 refine⟨h.1.part_in h1 h2,fun hx a l c e=>?_⟩;have hx':xs≠[]:=fun e=>hx (by subst e;simp)
 cases v with
 | slice b l' c'=>
  cases b with
  | none=>simp[A5c]at e
  | some b=>
   have:=h.2 hx' b l' c' rfl;simp only[A5c]at e;cases e;exact this
 | _=>simp[A5c]at e
end
section
variable {e : TypeId} {bytes : Nat} {z x y u v : Value}
theorem bsl1(hx:data x=true/\x.cells=#[x]):bslN (some (e,1,bytes,[z])) 1 #[(0,x)]=some (.cells [x] true,.slc 1 1):=by
 simp[bslN,hx,A2q,List.range,List.range.loop]
theorem bsl2(hx:data x=true/\x.cells=#[x])(hy:data y=true/\y.cells=#[y]):bslN (some (e,1,bytes,[z])) 2 #[(0,x),(1,y)]=some (.cells [x,y] true,.slc 2 2):=by
 simp[bslN,hx,hy,A2q,List.range,List.range.loop]
theorem bsl3(hx:data x=true/\x.cells=#[x])(hy:data y=true/\y.cells=#[y])(hu:data u=true/\u.cells=#[u]):bslN (some (e,1,bytes,[z])) 3 #[(0,x),(1,y),(2,u)]=some (.cells [x,y,u] true,.slc 3 3):=by
 simp[bslN,hx,hy,hu,A2q,List.range,List.range.loop]
theorem bsl4(hx:data x=true/\x.cells=#[x])(hy:data y=true/\y.cells=#[y])(hu:data u=true/\u.cells=#[u])(hv:data v=true/\v.cells=#[v]):bslN (some (e,1,bytes,[z])) 4 #[(0,x),(1,y),(2,u),(3,v)]=some (.cells [x,y,u,v] true,.slc 4 4):=by
 simp[bslN,hx,hy,hu,hv,A2q,List.range,List.range.loop]
end
theorem E4d{e:TypeId}{n b:Nat}{z:List Value}{q q':IntKind}{l:Nat}(h:l<=140737488355328/\b*l<=140737488355328):mslN (some (e,n,b,z)) (.int q l) (.int q' l)=some (.cells (A2q z (l*n)) false,.slc l l):=by
 simp[mslN,B0w?,h.2];omega
theorem D35{α:Type}{w:Nat}{E:Enc α w}{S:St}{v:Value}{xs:List α}{b n c:Nat}{vs:List Value}{tl:Bool}{k:Post}(hv:E.In S v xs)(hb:S.heap b=some (.cells vs tl))(hl:vs.length=xs.length*w)(hn:n=xs.length)
  (hk:k (.int .i64 xs.length) (S.put b (.cells (E.row xs) tl))):B45 w (.slice (some ⟨b,0,none⟩) n c) v k S:=by
 subst hn;obtain⟨⟨a,l,c',rfl⟩,hc⟩:=hv.sl.cells_;have hll:l=xs.length:=by
  have:=hv.sl;generalize hu:Value.slice a l c'=u at this;cases this<;>cases hu<;>rfl
 subst hll;have hmm:Nat.min xs.length xs.length=xs.length:=Nat.min_self _;simp only[B45,hc,Option.map_some,hmm];by_cases h0:xs.length=0
 ·rw[if_pos h0];have hx:xs=[]:=List.length_eq_zero_iff.1 h0;subst hx;have hvs:vs=[]:=by simpa using hl
  subst hvs;have e:S.put b (.cells (E.row ([]:List α)) tl)=S:=B37 hb;rw[e]at hk;simpa using hk
 ·rw[if_neg h0,hb];refine⟨by omega,?_⟩
  have e1:(E.row xs).take (xs.length*w)=E.row xs:=List.take_of_length_le (by simp)
  have e2:lwr vs 0 (E.row xs)=E.row xs:=by simp[lwr,hl]
  rw[e1,e2];exact hk
theorem Enc.In.made{α:Type}{w:Nat}{E:Enc α w}{s:St}{b n:Nat}{vs:List Value}{xs:List α}{tl:Bool}(hb:s.heap b=some (.cells vs tl))(hlt:b<s.next)(hv:vs=E.row xs)(hn:n=xs.length)(hn2:n<1000000):E.In s (.slice (some ⟨b,0,none⟩) n n) xs:=by
 subst hv;subst hn;exact⟨.row ⟨[],[],tl,by simpa using hb,rfl⟩,by simpa using hlt,.inr ⟨by show _<18446744073709551616;omega,Nat.le_refl _⟩⟩
def orL:List Int->Int
 | []=>0
 | x::r=>if x≠0 then x else orL r
theorem E4w{xs:List Int}{i:Nat}(h:i<xs.length):orL (xs.drop i)=if xs[i]≠0 then xs[i]else orL (xs.drop (i+1)):=by
 rw[List.drop_eq_getElem_cons h];rfl
theorem F32{v:Value}{xs:List Int}{Q:Post}{s:St}(hv:(intE .i64).In s v xs)(hlen:xs.length<1000000)(hq:Q (.int .i64 (orL xs)) s):CC X 192 [v] Q s:=by
 refine F0x rfl ?_
 try simp -implicitDefEqProofs (disch:=first|exact dsc|fail)[hv.len A00]
 refine D08 fun I hI=>?_;refine up (n:=xs.length) (M:=fun i=>∀u,orL (xs.drop i)=orL xs->I u (.int .i64 0) v (.int .i64 xs.length) (.int .i64 i) s) (fun i hi ih u he=>?_) 0 (Nat.zero_le _) _ rfl;refine hI _ _ _ _ _ _ ?_;by_cases hlt:i<xs.length
 ·rw[E4w hlt]at he;by_cases h0:xs[i]=0
  ·try simp -implicitDefEqProofs (disch:=first|exact dsc|fail)[hlt,hv.idx,hv.one,h0]
   exact ih hlt u (by simpa[h0]using he)
  ·try simp -implicitDefEqProofs (disch:=first|exact dsc|fail)[hlt,hv.idx,hv.one,h0]
   rw[<-he]at hq;simpa[h0]using hq
 ·try simp -implicitDefEqProofs (disch:=first|exact dsc|fail)[hlt]
  rw[List.drop_of_length_le (by omega)]at he
  rw[<-he]at hq;exact hq
abbrev A5b(x:A0t):Value:=.agg #[.int .i64 x.br,.int .i64 x.vol,.int .i64 x.blk,.int .u64 x.num]
section
variable {s : St} {Q : Post} {a b : A0t}
theorem B25(hq:Q (.int .i64 (ord a b)) s):CC X 178 [A5b a,A5b b] Q s:=by
 refine E92 rfl ?_
 try simp -implicitDefEqProofs (disch:=first|exact dsc|fail)[]
 refine B4u ?_
 try simp -implicitDefEqProofs (disch:=first|exact dsc|fail)[]
 refine B4u ?_
 try simp -implicitDefEqProofs (disch:=first|exact dsc|fail)[]
 refine B4u ?_
 try simp -implicitDefEqProofs (disch:=first|exact dsc|fail)[]
 refine D3x ?_
 try simp -implicitDefEqProofs (disch:=first|exact dsc|fail)[]
 rw[bsl4 ⟨rfl,rfl⟩ ⟨rfl,rfl⟩ ⟨rfl,rfl⟩ ⟨rfl,rfl⟩]
 try simp -implicitDefEqProofs (disch:=first|exact dsc|fail)[]
 refine F32 (xs:=[cmp3 a.br b.br,cmp3 a.vol b.vol,cmp3 a.blk b.blk,cmp3 a.num b.num]) (.made (St.alloc_at ⟨by simp,by simp⟩) (by simp) rfl rfl (by simp)) (by simp) ?_
 try simp -implicitDefEqProofs (disch:=first|exact dsc|fail)[]
 refine A0b (by repeat (first|exact Old.refl _|apply Old.alloc)) (.int _ _) ?_
 have e:orL [cmp3 a.br b.br,cmp3 a.vol b.vol,cmp3 a.blk b.blk,cmp3 a.num b.num]=ord a b:=by
  simp only[orL,ord];split
  ·rfl
  ·split
   ·rfl
   ·split
    ·rfl
    ·split
     ·rfl
     ·rename_i h;omega
 rw[e];exact hq
theorem A8a(hq:Q (.bool (decide (ord a b<0))) s):CC X 184 [A5b a,A5b b] Q s:=by
 refine F2p rfl ?_
 try simp -implicitDefEqProofs (disch:=first|exact dsc|fail)[]
 refine B25 ?_
 try simp -implicitDefEqProofs (disch:=first|exact dsc|fail)[]
 exact A0b (by simp) (.bool _) hq
end
def A1w(s:St)(o:Nat->Nat):(h:Nat)->Nat->NT h->Prop
 | 0,n,t=>∃kv vv,Blk s n [kv,vv,.slice none 0 0]/\o n=0/\Im A0s s o kv (A0m t)/\Im (intE .u64) s o vv ((A0m t).map (·.num))
 | h+1,n,t=>∃kv dv ps,Blk s n [kv,.slice none 0 0,dv]/\o n=0/\Im A0s s o kv (A0y (h+1) t)/\Im ptrE s o dv ps/\ps.length=(kids t).length/\∀i (hi:i<ps.length) (hj:i<(kids t).length),A1w s o h ps[i] (kids t)[i]
theorem A1w.fd{s S:St}{o o':Nat->Nat}{d:Nat->Prop}(g:Fd s S o o' d)(hd:¬d 0):∀{h n:Nat} {t:NT h},A1w s o h n t->A1w S o' h n t
 | 0,n,t,⟨kv,vv,h1,h2,h3,h4⟩=>⟨kv,vv,h1.fd g (by rw[h2];exact hd),(g.col h1.lt).trans h2,h3.fd g hd,h4.fd g hd⟩
 | h+1,n,t,⟨kv,dv,ps,h1,h2,h3,h4,h5,h6⟩=>⟨kv,dv,ps,h1.fd g (by rw[h2];exact hd),(g.col h1.lt).trans h2,h3.fd g hd,h4.fd g hd,h5,fun i hi hj=>A1w.fd g hd (h6 i hi hj)⟩
theorem A1w.old{s S:St}{o:Nat->Nat}(g:Old s S){h n:Nat}{t:NT h}(hn:A1w s o h n t):A1w S o h n t:=hn.fd (d:=fun _=>False) g.fd (fun h=>h)
theorem A1w.view{s:St}{o:Nat->Nat}:∀{h n:Nat} {t:NT h},A1w s o h n t->∃kv vv dv ps,Blk s n [kv,vv,dv]/\o n=0/\Im A0s s o kv (A0y h t)/\Im ptrE s o dv ps/\ps.length=(if h=0 then 0 else lenN h t)
 | 0,n,t,⟨kv,vv,h1,h2,h3,h4⟩=>⟨kv,vv,_,[],h1,h2,h3,.nil,by simp⟩
 | h+1,n,t,⟨kv,dv,ps,h1,h2,h3,h4,h5,h6⟩=>⟨kv,_,dv,ps,h1,h2,h3,h4,by simpa[lenN]using h5⟩
theorem A1w.lt{s:St}{o:Nat->Nat}{h n:Nat}{t:NT h}(hn:A1w s o h n t):n<s.next:=let ⟨_,_,_,_,h1,_⟩:=hn.view;h1.lt
section
variable {s : St} {o : Nat → Nat} {p : A0t → Prop} {h n : Nat} {t : NT h} {k : A0t} {Q : Post}
theorem A1n(hn:A1w s o h n t)(ho:OkN p h t)(hq:Q (.bool (decide (h=0))) s):CC X 177 [.pointer (some ⟨n,0,none⟩)] Q s:=by
 obtain⟨kv,vv,dv,ps,h1,h2,h3,h4,h5⟩:=hn.view;have hl:=fun S=>h4.1.len (P:=P) (s':=S) A0k;refine F45 rfl ?_
 try simp -implicitDefEqProofs (disch:=first|exact dsc|fail)[B2w A0g,h1.eq,hl]
 cases h with
 | zero=>
  have e:ps=[]:=List.length_eq_zero_iff.1 h5;simpa[e]using hq
 | succ h=>
  have:=ho.1;have e:¬ps=[]:=fun e=>by rw[e]at h5;simp[lenN]at h5;omega
  simpa[e]using hq
theorem B2k(hn:A1w s o h n t)(hq:∀b,Q (.tuple #[A5b (A1x h t),.bool b]) s):CC X 187 [.pointer (some ⟨n,0,none⟩)] Q s:=by
 obtain⟨kv,vv,dv,ps,h1,h2,h3,h4,h5⟩:=hn.view;have hl:=fun S=>h3.1.len (P:=P) (s':=S) A0i;have hlt:=h1.lt;refine F3x rfl ?_;unfold A1x at hq;have h3':Im A0s (s.alloc (.cells (A0s.cells sp0) false)) o kv (A0y h t):=h3.old (by simp)
 cases hk:A0y h t with
 | nil=>
  rw[hk]at hq
  try simp -implicitDefEqProofs (disch:=first|exact dsc|fail)[A0j A0g,h1.eq,hl,hk]
  exact A0b (by simp) (A0p (by simp)) (hq _)
 | cons x r=>
  rw[hk]at hq h3';have h0:0<(x::r).length:=by simp
  have hi:=fun(q:IntKind)=>h3'.1.idx (q:=q) (ag:=true) (j:=0) (by omega) (by simp<;>omega)
  have hg:=h3'.1.agg (i:=0) h0;have hk':(A0y h t).length=r.length+1:=by rw[hk];rfl
  simp only[Int.toNat_zero,Nat.zero_mul,List.getElem_cons_zero,A1p,sp0]at hi hg
  try simp -implicitDefEqProofs (disch:=first|exact dsc|fail)[A0j A0g,h1.eq,hl,hk,hi,hg]
  exact A0b (by simp) (A0p (by simp)) (hq _)
theorem D3g(hn:A1w s o h n t)(ho:OkN p h t)(hq:Q (.int .i64 (lenN h t)) s):CC X 201 [.pointer (some ⟨n,0,none⟩)] Q s:=by
 obtain⟨kv,vv,dv,ps,h1,h2,h3,h4,h5⟩:=hn.view;have hl:=fun S=>h4.1.len (P:=P) (s':=S) A0k;have hl2:=fun S=>h3.1.len (P:=P) (s':=S) A0i;refine F33 rfl ?_
 try simp -implicitDefEqProofs (disch:=first|exact dsc|fail)[A0j A0g]
 refine A1n hn ho ?_;by_cases h0:h=0
 ·try simp -implicitDefEqProofs (disch:=first|exact dsc|fail)[h0,h1.eq,hl2]
  rw[A4a];exact hq
 ·rw[if_neg h0]at h5
  try simp -implicitDefEqProofs (disch:=first|exact dsc|fail)[h0,h1.eq,hl,h5]
  exact hq
theorem C0n{v:Value}(hv:data v=true/\v.cells=#[v])(hq:∀S,Old s S->Blk S s.next [v]->Q (.func (.func 195) #[] #[.pointer (some ⟨s.next,0,none⟩)]) S):CC X 179 [v] Q s:=by
 refine F0r rfl ?_;have hb:=C1q hv.1;rw[hv.2]at hb
 try simp -implicitDefEqProofs (disch:=first|exact dsc|fail)[hb,mkFn,Value.oneCell']
 exact A0a (hq _ (by simp) ⟨by simp,by simp⟩)
theorem B6k{v:Value}{xs:List A0t}{bx y n0:Nat}{J:Nat->(Nat->Prop)->St->Prop}{D:(Nat->Prop)->St->Prop}{M0:Nat->Prop}(hlen:xs.length<1000000)(hJ:∀i M S,J i M S->S.heap bx=some (.cells [v] false)/\A0s.In S v xs)
  (hr:∀i (hi:i<xs.length),B6u (CC X) y n0 [.int .i64 i,A5b xs[i]] (J (i+1)) (J i) D) (h0:J xs.length M0 s)
  (hq:∀M S,J 0 M S->Q (.tuple #[]) S) (hqD:∀M S,D M S->Q (.tuple #[]) S) :
  CC X 195 [.func (.yield y) #[] #[],.pointer (some ⟨bx,0,none⟩)] Q s:=by
 refine F51 rfl ?_;obtain⟨g1,g2⟩:=hJ _ _ _ h0
 try simp -implicitDefEqProofs (disch:=first|exact dsc|fail)[g1,g2.len A0i]
 refine D0y fun I hI=>?_;have key:∀i,i<=xs.length->∀M S,J i M S->I (.func (.yield y) #[] #[]) (.pointer (some ⟨bx,0,none⟩)) (.int .i64 ((i:Int)-1)) S:=by
  intro i;induction i with
  | zero=>
   intro _ M S hj;refine hI _ _ _ _ ?_
   try simp -implicitDefEqProofs (disch:=first|exact dsc|fail)[]
   exact A0a (hq M S hj)
  | succ i ih=>
   intro hi M S hj;refine hI _ _ _ _ ?_;obtain⟨g1,g2⟩:=hJ _ _ _ hj;have hlt:i<xs.length:=by omega
   have e:((i+1:Nat):Int)-1=i:=by omega
   rw[e]
   try simp -implicitDefEqProofs (disch:=first|exact dsc|fail)[g1,g2.idx,g2.agg,hlt]
   refine⟨rfl,rfl,hr i hlt M S _ hj (fun M' S3 hJ3 hK=>?_) (fun M' S3 hD hK=>?_)⟩
   ·try simp -implicitDefEqProofs (disch:=first|exact dsc|fail)[]
    exact ih (by omega) M' S3 hJ3
   ·try simp -implicitDefEqProofs (disch:=first|exact dsc|fail)[]
    exact A0a (hqD M' S3 hD)
 exact key _ (Nat.le_refl _) _ _ h0
def B6o(h:Nat)(t:NT h)(k:A0t):Nat×Bool:=if h=0 then A07 (A0y h t) k else fIn (A0y h t) k
theorem A7t(hn:A1w s o h n t)(ho:OkN p h t)(hq:Q (.tuple #[.int .i64 (B6o h t k).1,.bool (B6o h t k).2]) s):CC X 151 [.pointer (some ⟨n,0,none⟩),A5b k] Q s:=by
 obtain⟨kv,vv,dv,ps,h1,h2,h3,h4,h5⟩:=hn.view;have hl2:=fun S=>h3.1.len (P:=P) (s':=S) A0i;have hl4:(A0y h t).length<=4:=by rw[A4a];exact ho.len
 have hlt:=h1.lt;refine D9o rfl ?_;unfold B6o at hq
 try simp -implicitDefEqProofs (disch:=first|exact dsc|fail)[A0j A0g]
 generalize hs1:(((s.alloc (.cells (A0s.cells k) false)).alloc (.cells [.int .i64 0] false)).alloc (.cells [.bool false] false))=s1;have o1:Old s s1:=by subst hs1;exact(((Old.refl s).alloc).alloc).alloc
 have n1:s1.next=s.next+3:=by subst hs1;simp
 have b0:s1.heap s.next=some (.cells (A0s.cells k) false):=by
  subst hs1;exact(St.alloc_old (by simp only[St.alloc_next];omega)).trans ((St.alloc_old (by simp only[St.alloc_next];omega)).trans St.alloc_self)
 have b1:s1.heap (s.next+1)=some (.cells [.int .i64 0] false):=by
  subst hs1;exact(St.alloc_old (by simp only[St.alloc_next];omega)).trans St.alloc_self
 have b2:s1.heap (s.next+1+1)=some (.cells [.bool false] false):=by subst hs1;exact St.alloc_self
 simp only[A1p]at hs1;rw[hs1];clear hs1;have c1:=h1.old o1;have c3:=h3.old o1;refine A1n (hn.old o1) ho ?_;by_cases h0:h=0
 ·rw[if_pos h0]at hq
  try simp -implicitDefEqProofs (disch:=first|exact dsc|fail)[h0,c1.eq,hl2]
  refine D0e fun I hI=>?_;refine up (n:=(A0y h t).length) (M:=fun i=>∀S,Old s1 S->(∀j (hj:j<(A0y h t).length),j<i->ord (A0y h t)[j] k<0)->I (.pointer (some ⟨n,0,none⟩)) (.pointer (some ⟨s.next,0,none⟩)) (.pointer (some ⟨s.next+1,0,none⟩)) (.pointer (some ⟨s.next+1+1,0,none⟩)) kv (.int .i64 (A0y h t).length) (.int .i64 i) S) (fun i hi ih S oS hj=>?_) 0 (Nat.zero_le _) s1 (.refl _) (fun _ _ h=>by omega)
  refine hI _ _ _ _ _ _ _ _ ?_;have d0:=(oS.eq (b:=s.next) (by omega)).trans b0
  have d1:=(oS.eq (b:=s.next+1) (by omega)).trans b1
  have d2:=(oS.eq (b:=s.next+1+1) (by omega)).trans b2
  have dn:=c1.old oS;have dk:=c3.old oS;have hlS:=oS.le;by_cases hlt2:i<(A0y h t).length
  ·have d0':(S.alloc (.cells [.int .i64 (A0y h t)[i].br,.int .i64 (A0y h t)[i].vol,.int .i64 (A0y h t)[i].blk,.int .u64 (A0y h t)[i].num] false)).heap s.next=some (.cells (A0s.cells k) false):=by rw[St.alloc_old (by omega)];exact d0
   try simp -implicitDefEqProofs (disch:=first|exact dsc|fail)[hlt2,dk.1.idx,dk.1.agg,d0',d0]
   refine B25 ?_;by_cases hc:0<=ord (A0y h t)[i] k
   ·rw[C7r hlt2 hj hc]at hq
    try simp -implicitDefEqProofs (disch:=first|exact dsc|fail)[hc,d1,d2]
    exact A0b ((Old.alloc ((o1.trans oS).put (by omega) |>.put (by omega)))) (A0p (by simp)) hq
   ·try simp -implicitDefEqProofs (disch:=first|exact dsc|fail)[hc]
    exact ih hlt2 _ oS.alloc (fun j hj2 hji=>by
     by_cases e:j=i
     ·subst e;omega
     ·exact hj j hj2 (by omega))
  ·rw[B8d (fun j hj2=>hj j hj2 (by omega))]at hq
   try simp -implicitDefEqProofs (disch:=first|exact dsc|fail)[hlt2,d1,d2,dn.eq,hl2]
   exact A0b (((o1.trans oS).put (by omega)).put (by omega)) (A0p (by simp)) hq
 ·rw[if_neg h0]at hq;have h0':¬h=0:=h0
  try simp -implicitDefEqProofs (disch:=first|exact dsc|fail)[h0,c1.eq,hl2]
  refine C0n c3.1.data fun S2 o2 b3=>?_
  try simp -implicitDefEqProofs (disch:=first|exact dsc|fail)[]
  refine B6b fun hY=>?_;have hle2:=o2.le;have oS2:=o1.trans o2;have e0:=(o2.eq (b:=s.next) (by omega)).trans b0
  have e1:=(o2.eq (b:=s.next+1) (by omega)).trans b1
  have e2:=(o2.eq (b:=s.next+1+1) (by omega)).trans b2
  have en:=c1.old o2;have ek:=c3.old o2;have hb3:=b3.lt;refine⟨rfl,by simp,?_⟩
  generalize hrd:AObj.loop _ _ _ _ LoopState.ready none=rd at hY ⊢;refine B6k (v:=kv) (xs:=A0y h t) (n0:=S2.next+1) (J:=fun i M S=>Old (S2.alloc rd) S/\(∀j (hj:j<(A0y h t).length),i<=j->0<ord (A0y h t)[j] k)/\M=fun _=>False)
   (D:=fun M S=>M=(fun _=>False)/\∃i,∃(hi:i<(A0y h t).length),ord (A0y h t)[i] k<=0/\(∀j (hj:j<(A0y h t).length),i<j->0<ord (A0y h t)[j] k)/\Old s S/\s.next+1+1<S.next/\S.heap (s.next+1)=some (.cells [.int .i64 i] false)/\S.heap (s.next+1+1)=some (.cells [.bool (decide (ord (A0y h t)[i] k=0))] false)/\S.heap S2.next=some (.loop (A6l (.pointer (some ⟨s.next,0,none⟩)) (.pointer (some ⟨s.next+1,0,none⟩)) (.pointer (some ⟨s.next+1+1,0,none⟩))) A26 A2p A2o .done (some .ret)))
   (by omega) (fun i M S hJ=>?_) (fun i hi=>?_) ⟨.refl _,fun j hj hji=>by omega,rfl⟩ (fun M S hJ=>?_) (fun M S hD=>?_)
  ·have:=hJ.1;exact⟨(this.eq (by simp;omega)).trans ((St.alloc_old hb3).trans b3.eq),(ek.old (Old.alloc (.refl _) |>.trans this)).1⟩
  ·intro M S Q2 hJ hgo hret;obtain⟨oS,hj,rfl⟩:=hJ;have hle3:=oS.le;simp only[St.alloc_next]at hle3;have hrdy:S.heap S2.next=some rd:=(oS.eq (by simp)).trans St.alloc_self
   have old3:Old S2 S:=((Old.refl S2).alloc).trans oS;have d0:=(old3.eq (b:=s.next) (by omega)).trans e0
   have d1:=(old3.eq (b:=s.next+1) (by omega)).trans e1
   have d2:=(old3.eq (b:=s.next+1+1) (by omega)).trans e2
   subst hrd;refine hY _ _ _ _ hrdy ?_
   try simp -implicitDefEqProofs (disch:=first|exact dsc|fail)[hrdy,d0]
   refine B25 ?_;by_cases hc:ord (A0y h t)[i] k<=0
   ·try simp -implicitDefEqProofs (disch:=first|exact dsc|fail)[hc,d1,d2]
    refine hret (fun _=>False) _ ⟨rfl,i,hi,hc,fun j hj2 hji=>hj j hj2 (by omega),(((((oS2.trans old3).put (by omega)).put (by omega)).put (by omega)).put (by omega)).alloc,by simp;omega,?_,?_,?_⟩ ⟨by simp,fun b hb hb2 _=>?_,fun _ h=>h.elim⟩
    ·rw[St.alloc_old (by simp;omega),St.put_other (by omega),St.put_other (by omega),St.put_self]
    ·rw[St.alloc_old (by simp;omega),St.put_other (by omega),St.put_self]
    ·rw[St.alloc_old (by simp;omega),St.put_self]
    ·rw[St.alloc_old (by simp;omega),St.put_other (by omega),St.put_other (by omega),St.put_other (by omega),St.put_other (by omega)]
   ·try simp -implicitDefEqProofs (disch:=first|exact dsc|fail)[hc]
    rw[B37 hrdy];refine hgo (fun _=>False) _ ⟨oS.alloc,fun j hj2 hji=>?_,rfl⟩ ⟨by simp,fun b hb hb2 _=>St.alloc_old hb2,fun _ h=>h.elim⟩
    by_cases e:j=i
    ·subst e;omega
    ·exact hj j hj2 (by omega)
  ·obtain⟨oS,hj,rfl⟩:=hJ;have hle3:=oS.le;simp only[St.alloc_next]at hle3;have hrdy:S.heap S2.next=some rd:=(oS.eq (by simp)).trans St.alloc_self
   have old3:Old S2 S:=((Old.refl S2).alloc).trans oS;have d1:=(old3.eq (b:=s.next+1) (by omega)).trans e1
   have d2:=(old3.eq (b:=s.next+1+1) (by omega)).trans e2
   subst hrd;refine A74 hrdy ?_;rw[E2x (fun j hj2=>hj j hj2 (Nat.zero_le _))]at hq
   try simp -implicitDefEqProofs (disch:=first|exact dsc|fail)[d1,d2]
   exact A0b ((((oS2.trans old3).put (by omega)).put (by omega)).put (by omega)) (A0p (by simp)) hq
  ·obtain⟨rfl,i,hi,g1,g2,g3,g4,g5,g6,g7⟩:=hD;rw[G7w hi g1 g2]at hq;refine F07 g7 ?_
   try simp -implicitDefEqProofs (disch:=first|exact dsc|fail)[g5,g6]
   exact A0b (g3.put (by omega)) (A0p (by simp)) hq
theorem C62{t:NT (h+1)}(hn:A1w s o (h+1) n t)(ho:OkN p (h+1) t)(hq:Q (.int .i64 (fIn (A0y (h+1) t) k).1) s):CC X 199 [.pointer (some ⟨n,0,none⟩),A5b k] Q s:=by
 obtain⟨kv,vv,dv,ps,h1,h2,h3,h4,h5⟩:=hn.view;have hl:=fun S=>h4.1.len (P:=P) (s':=S) A0k;have hlt:=h1.lt;have h1':=ho.1;have h2':=ho.2.1;simp only[Nat.add_eq_zero_iff,Nat.succ_ne_zero,and_false,if_false]at h5;have hi:=C53 (l:=A0y (h+1) t) (k:=k) (by rw[A4a];exact h1')
 rw[A4a]at hi;refine F1j rfl ?_
 try simp -implicitDefEqProofs (disch:=first|exact dsc|fail)[]
 refine A7t (hn.old (by simp)) ho ?_
 simp only[B6o,Nat.add_eq_zero_iff,Nat.succ_ne_zero,and_false,if_false];have hmin:¬((lenN (h+1) t:Int)-1<(fIn (A0y (h+1) t) k).1):=by omega
 have hw:IntKind.i64.wrap ((lenN (h+1) t:Int)-1)=(lenN (h+1) t:Int)-1:=wrap_i64 (by omega) (by simp only[lenN];omega)
 try simp -implicitDefEqProofs (disch:=first|exact dsc|fail)[h1.eq,hl,h5,hmin,hw]
 exact A0b (by simp) (.int _ _) hq
end
def A1i(s:St)(o:Nat->Nat)(h:Nat)(ps:List Nat)(ts:List (NT h)):Prop:=ps.length=ts.length/\∀i (hi:i<ps.length) (hj:i<ts.length),A1w s o h ps[i] ts[i]
theorem A1i.fd{s S:St}{o o':Nat->Nat}{d:Nat->Prop}(g:Fd s S o o' d)(hd:¬d 0){h:Nat}{ps:List Nat}{ts:List (NT h)}(hn:A1i s o h ps ts):A1i S o' h ps ts:=⟨hn.1,fun i hi hj=>(hn.2 i hi hj).fd g hd⟩
theorem A1i.old{s S:St}{o:Nat->Nat}(g:Old s S){h:Nat}{ps:List Nat}{ts:List (NT h)}(hn:A1i s o h ps ts):A1i S o h ps ts:=hn.fd (d:=fun _=>False) g.fd (fun h=>h)
theorem A1i.append{s:St}{o:Nat->Nat}{h:Nat}{ps qs:List Nat}{ts us:List (NT h)}(h1:A1i s o h ps ts)(h2:A1i s o h qs us):A1i s o h (ps++qs) (ts++us):=by
 refine⟨by simp[h1.1,h2.1],fun i hi hj=>?_⟩
 have e:=h1.1;by_cases hlt:i<ps.length
 ·rw[List.getElem_append_left hlt,List.getElem_append_left (by omega)]
  exact h1.2 i hlt (by omega)
 ·rw[List.getElem_append_right (by omega),List.getElem_append_right (by omega)]
  simp only[List.length_append]at hi hj;have:=h2.2 (i-ps.length) (by omega) (by omega)
  simpa only[e]using this
theorem A1i.take{s:St}{o:Nat->Nat}{h j:Nat}{ps:List Nat}{ts:List (NT h)}(h1:A1i s o h ps ts):A1i s o h (ps.take j) (ts.take j):=by
 refine⟨by simp[h1.1],fun i hi hj=>?_⟩
 rw[List.getElem_take,List.getElem_take];exact h1.2 i _ _
theorem A1i.drop{s:St}{o:Nat->Nat}{h j:Nat}{ps:List Nat}{ts:List (NT h)}(h1:A1i s o h ps ts):A1i s o h (ps.drop j) (ts.drop j):=by
 refine⟨by simp[h1.1],fun i hi hj=>?_⟩
 rw[List.getElem_drop,List.getElem_drop];exact h1.2 _ _ _
theorem A1i.set{s:St}{o:Nat->Nat}{h j n:Nat}{t:NT h}{ps:List Nat}{ts:List (NT h)}(h1:A1i s o h ps ts)(hn:A1w s o h n t):A1i s o h (ps.set j n) (ts.set j t):=by
 refine⟨by simp[h1.1],fun i hi hj=>?_⟩
 rw[List.getElem_set,List.getElem_set];split
 ·exact hn
 ·exact h1.2 _ _ _
theorem A1i.nil{s:St}{o:Nat->Nat}{h:Nat}:A1i s o h [] []:=⟨rfl,fun i hi=>absurd hi (by simp)⟩
theorem A1i.cons{s:St}{o:Nat->Nat}{h n:Nat}{t:NT h}{ps:List Nat}{ts:List (NT h)}(hn:A1w s o h n t)(h1:A1i s o h ps ts):A1i s o h (n::ps) (t::ts):=by
 refine⟨by simp[h1.1],fun i hi hj=>?_⟩
 cases i with
 | zero=>exact hn
 | succ i=>exact h1.2 i (by simpa using hi) (by simpa using hj)
theorem A1w.kids{s:St}{o:Nat->Nat}{h n:Nat}{t:NT (h+1)}(hn:A1w s o (h+1) n t):∃kv dv ps,Blk s n [kv,.slice none 0 0,dv]/\o n=0/\Im A0s s o kv (A0y (h+1) t)/\Im ptrE s o dv ps/\A1i s o h ps (Zz.kids t):=by
 obtain⟨kv,dv,ps,h1,h2,h3,h4,h5,h6⟩:=hn;exact⟨kv,dv,ps,h1,h2,h3,h4,h5,h6⟩
theorem A1w.mk{s:St}{o:Nat->Nat}{h n:Nat}{ts:List (NT h)}{kv dv:Value}{ps:List Nat}(h1:Blk s n [kv,.slice none 0 0,dv])(h2:o n=0)(h3:Im A0s s o kv (A0y (h+1) (mkN ts)))(h4:Im ptrE s o dv ps)(h5:A1i s o h ps ts):A1w s o (h+1) n (mkN ts):=
 ⟨kv,dv,ps,h1,h2,h3,h4,h5.1,h5.2⟩
theorem Im.take3{α:Type}{w:Nat}{E:Enc α w}{s:St}{o:Nat->Nat}{v:Value}{xs:List α}{P:Program}{t e:TypeId}{m:Nat}(h:Im E s o v xs)(ht:P.underlying t=some (.slice e))(hz:A08 P e=some w)(hm:m<=xs.length)(h0:0<xs.length)(hx:xs.length<1000000) :
  ∃v',(∀(q q':IntKind) S,slcV P t v none (some (.int q m)) (some (.int q' m)) S=some v')/\Im E s o v' (xs.take m):=by
 obtain⟨b,c,c',rfl,hat⟩:=h.1.sl.ne (by intro e;simp[e]at h0)
 have hc:=h.1.cap;have hc':c'=top+w\/c'<top/\xs.length<=c':=hc;refine⟨.slice (some ⟨b,c,none⟩) m m,fun q q' S=>?_,⟨?_,?_,?_⟩,fun _ a l cc e=>?_⟩
 ·rw[B1s ht hz ⟨by simp,by omega,by simp,by omega,by omega,hc'⟩]
  simp
 ·have:=Enc.Sl.row (c:=m) (hat.take (j:=m))
  rwa [show(xs.take m).length=m by simp;omega]at this
 ·have:=h.1.bel;simpa using this
 ·exact .inr ⟨by show m<18446744073709551616;omega,Nat.le_refl _⟩
 ·cases e;exact h.2 (by intro e;simp[e]at h0) _ _ _ rfl
section
variable {s : St} {o : Nat → Nat} {p : A0t → Prop} {h n : Nat} {k : A0t} {Q : Post}
theorem A8x{dv:Value}{ps:List Nat}{ts:List (NT h)}(hd:Im ptrE s o dv ps)(hn:A1i s o h ps ts)(hl:ts.length<=4)(hq:∀n S o',Fd s S o o' (fun _=>False)->A1w S o' (h+1) n (mkN ts)->Q (.pointer (some ⟨n,0,none⟩)) S):CC X 204 [dv] Q s:=by
 have hlp:ps.length<=4:=by rw[hn.1];exact hl
 have hl2:=fun S=>hd.1.len (P:=P) (s':=S) A0k;have hdd:=hd.1.data;refine F4e rfl ?_
 try simp -implicitDefEqProofs (disch:=first|exact dsc|fail)[hl2,hdd]
 refine D1n fun I hI=>?_;have hks:A0y (h+1) (mkN ts)=ts.map (A1x h):=rfl;have hkl:(ts.map (A1x h)).length=ts.length:=by simp
 refine up (n:=ps.length) (M:=fun i=>∀kv ρ S,Old s S->S.heap s.next=some (.cells [kv,.slice none 0 0,dv] false)->s.next<S.next->A0s.Own S kv ρ ((ts.map (A1x h)).take i)->(∀b,ρ=some b->s.next<b)->I (.pointer (some ⟨s.next,0,none⟩)) dv (.int .i64 ps.length) (.int .i64 i) S) (fun i hi ih kv ρ S oS hb hlt hown hρ=>?_) 0 (Nat.zero_le _) (.slice none 0 0) none _ (by simp) (by simp) (by simp) .nil (fun b e=>by cases e)
 refine hI _ _ _ _ _ ?_;have hdS:=hd.old oS;have hnS:=hn.old oS;by_cases hlt2:i<ps.length
 ·have hi2:i<ts.length:=by rw[<-hn.1];exact hlt2
  try simp -implicitDefEqProofs (disch:=first|exact dsc|fail)[hlt2,hdS.1.idx,hdS.1.one]
  refine B2k (hnS.2 i hlt2 hi2) fun bb=>?_;have hb':(S.alloc (.cells [.int .i64 (A1x h ts[i]).br,.int .i64 (A1x h ts[i]).vol,.int .i64 (A1x h ts[i]).blk,.int .u64 (A1x h ts[i]).num] false)).heap s.next=some (.cells [kv,.slice none 0 0,dv] false):=by rw[St.alloc_old hlt];exact hb
  try simp -implicitDefEqProofs (disch:=first|exact dsc|fail)[hb,hb']
  have hown':=hown.same (s':=S.alloc (.cells [.int .i64 (A1x h ts[i]).br,.int .i64 (A1x h ts[i]).vol,.int .i64 (A1x h ts[i]).blk,.int .u64 (A1x h ts[i]).num] false)) (by simp) (fun b hb=>St.alloc_old (by subst hb;exact hown.lt))
  refine hown'.pushC (a:=A1x h ts[i]) A5h A5j (by rfl) (by rfl) (by simp;omega) (by simp;omega) ?_ fun v' S3 ρ' w1 w2 w3=>?_
  ·try simp -implicitDefEqProofs (disch:=first|exact dsc|fail)[hb]
  ·have hb3:S3.heap s.next=some (.cells [kv,.slice none 0 0,dv] false):=(w2.eq (by simp;omega) (fun e=>by have:=hρ _ e;omega)).trans hb'
   have hle3:=w2.le;simp only[St.alloc_next]at hle3;have hρ':∀b,ρ'=some b->s.next<b:=fun b hb=>(w3 b hb).elim (fun e=>hρ b e) (fun e=>by simp at e;omega)
   try simp -implicitDefEqProofs (disch:=first|exact dsc|fail)[hb3,w1.in_.data]
   refine ih hlt2 v' ρ' _ ⟨by simp;omega,fun {b} hb=>?_⟩ (by simp) (by simp;omega) ?_ hρ'
   ·rw[St.put_other (by omega),w2.eq (by simp;omega) (fun e=>by have:=hρ _ e;omega),St.alloc_old (by omega),oS.eq hb]
   ·rw[A2w (by simpa using hi2)]
    have:=w1.same (s':=S3.put s.next (.cells [v',.slice none 0 0,dv] false)) (by simp) (fun b hb=>St.put_other (by have:=hρ' b hb;omega))
    simpa using this
 ·have hie:i=ps.length:=by omega
  subst hie;have e:(ts.map (A1x h)).take ps.length=ts.map (A1x h):=by rw[hn.1,<-hkl,List.take_length]
  rw[e]at hown
  try simp -implicitDefEqProofs (disch:=first|exact dsc|fail)[hlt2]
  have hf:=oS.tint (o:=o) (k:=0) (c:=fun _=>False);refine A0a (hq s.next S (tint o s.next 0) hf (A1w.mk ⟨hlt,hb⟩ (A0d (Nat.le_refl _)) ⟨hown.in_,fun hx a l c e=>?_⟩ (hd.fd hf (fun h=>h)) (hn.fd hf (fun h=>h))))
  obtain⟨b,c',post,tl,rfl,rfl,_⟩:=hown.ne hx;cases e;exact A0d (Nat.le_of_lt (hρ b rfl))
theorem A98{dv:Value}{ps:List Nat}{ts:List (NT h)}(hd:Im ptrE s o dv ps)(hn:A1i s o h ps ts)(hl:ts.length<=8)
  (hq:∀v qs S o',Fd s S o o' (fun _=>False)->Im ptrE S o' v qs->A1i S o' (h+1) qs ((A35 ts).map mkN)->Q v S):CC X 211 [dv] Q s:=by
 have hlp:ps.length<=8:=by rw[hn.1];exact hl
 have hl2:=fun S=>hd.1.len (P:=P) (s':=S) A0k;refine F3y rfl ?_;unfold A35 at hq;rw[<-hn.1]at hq;by_cases h4:ps.length<=4
 ·have h4i:(ps.length:Int)<=4:=by omega
  try simp -implicitDefEqProofs (disch:=first|exact dsc|fail)[hl2,h4i]
  refine A8x hd hn (by rw[<-hn.1];exact h4) fun n S o' hf hno=>?_
  rw[if_pos h4]at hq
  try simp -implicitDefEqProofs (disch:=first|exact dsc|fail)[]
  rw[bsl1 ⟨rfl,rfl⟩]
  try simp -implicitDefEqProofs (disch:=first|exact dsc|fail)[]
  have hf2:Fd S (S.alloc (.cells [.pointer (some ⟨n,0,none⟩)] true)) o' (tint o' S.next 0) (fun _=>False):=(Old.alloc (.refl _)).tint
  refine A0a (hq _ [n] _ _ (hf.trans hf2) ⟨.made St.alloc_self (by simp) rfl rfl (by simp),fun _ a l c e=>by cases e;exact A0d (Nat.le_refl _)⟩ (.cons (hno.fd hf2 (fun h=>h)) .nil))
 ·have hw:((ps.length:Int)+1)/2=(((ps.length+1)/2:Nat):Int):=by omega
  generalize hm:(ps.length+1)/2=m at *;obtain⟨v1,e1,i1⟩:=hd.take3 (m:=m) A0k A56 (by omega) (by omega) (by omega)
  have e2:=fun S (hS:Old s S)=>(hd.old hS).part (P:=P) (lo:=some (.int .i64 m)) (hi:=none) A0k A56 ⟨by simp,by simp,by simp;omega,by simp⟩
  have i2:=hd.part_in (lo:=m) (hi:=ps.length) (by omega) (Nat.le_refl _)
  have hdl:(ps.drop m).take (ps.length-m)=ps.drop m:=List.take_of_length_le (by simp)
  rw[hdl]at i2;have e2s:=e2 s (.refl _);simp only[A9s,A9v,Int.toNat_natCast]at e2 e2s;have h4i:¬(ps.length:Int)<=4:=by omega
  try simp -implicitDefEqProofs (disch:=first|exact dsc|fail)[hl2,h4i,hw,e1,e2s]
  refine A8x i1 hn.take (by simp;omega) fun n S o' hf hno=>?_
  have hfo:=hf.chg.old (fun _ _ h=>h)
  try simp -implicitDefEqProofs (disch:=first|exact dsc|fail)[e2 S hfo]
  refine A8x (i2.fd hf (fun h=>h)) (hn.drop.fd hf (fun h=>h)) (by have:=hn.1;simp;omega) fun n2 S2 o2 hf2 hno2=>?_
  rw[if_neg h4]at hq
  try simp -implicitDefEqProofs (disch:=first|exact dsc|fail)[]
  rw[bsl2 ⟨rfl,rfl⟩ ⟨rfl,rfl⟩]
  try simp -implicitDefEqProofs (disch:=first|exact dsc|fail)[]
  have hf3:Fd S2 (S2.alloc (.cells [.pointer (some ⟨n,0,none⟩),.pointer (some ⟨n2,0,none⟩)] true)) o2 (tint o2 S2.next 0) (fun _=>False):=(Old.alloc (.refl _)).tint
  refine A0a (hq _ [n,n2] _ _ ((hf.trans hf2).trans hf3) ⟨.made St.alloc_self (by simp) rfl rfl (by simp),fun _ a l c e=>by cases e;exact A0d (Nat.le_refl _)⟩ (.cons ((hno.fd hf2 (fun h=>h)).fd hf3 (fun h=>h)) (.cons (hno2.fd hf3 (fun h=>h)) .nil)))
theorem A1w.leaf{n:Nat}{l:List A0t}{kv vv:Value}(h1:Blk s n [kv,vv,.slice none 0 0])(h2:o n=0)(h3:Im A0s s o kv l)(h4:Im (intE .u64) s o vv (l.map (·.num))):A1w s o 0 n (mk0 l):=⟨kv,vv,h1,h2,h3,h4⟩
theorem B51{kv vv:Value}{l:List A0t}(hk:Im A0s s o kv l)(hv:Im (intE .u64) s o vv (l.map (·.num)))(hl:l.length<=8)
  (hq:∀v qs S o',Fd s S o o' (fun _=>False)->Im ptrE S o' v qs->A1i S o' 0 qs ((A35 l).map mk0)->Q v S):CC X 208 [kv,vv] Q s:=by
 have hl2:=fun S=>hk.1.len (P:=P) (s':=S) A0i;refine F37 rfl ?_;unfold A35 at hq;have hdk:=hk.1.data;have hdv:=hv.1.data;by_cases h4:l.length<=4
 ·rw[if_pos h4]at hq;have hf:Fd s (s.alloc (.cells [kv,vv,.slice none 0 0] false)) o (tint o s.next 0) (fun _=>False):=(Old.alloc (.refl _)).tint
  have hf2:Fd (s.alloc (.cells [kv,vv,.slice none 0 0] false)) ((s.alloc (.cells [kv,vv,.slice none 0 0] false)).alloc (.cells [.pointer (some ⟨s.next,0,none⟩)] true)) (tint o s.next 0) (tint (tint o s.next 0) (s.next+1) 0) (fun _=>False):=(Old.alloc (.refl _)).tint
  have h4i:(l.length:Int)<=4:=by omega
  try simp -implicitDefEqProofs (disch:=first|exact dsc|fail)[hl2,h4i,hdk,hdv]
  rw[bsl1 ⟨rfl,rfl⟩]
  try simp -implicitDefEqProofs (disch:=first|exact dsc|fail)[]
  refine A0a (hq _ [s.next] _ _ (hf.trans hf2) ⟨.made (b:=s.next+1) (St.alloc_at (by simp)) (by simp) rfl rfl (by simp),fun _ a l c e=>by cases e;exact A0d (Nat.le_refl _)⟩ (.cons ?_ .nil))
  exact A1w.fd hf2 (fun h=>h) (.leaf (kv:=kv) (vv:=vv) ⟨by simp,by simp⟩ (A0d (Nat.le_refl _)) (hk.fd hf (fun h=>h)) (hv.fd hf (fun h=>h)))
 ·have hw:((l.length:Int)+1)/2=(((l.length+1)/2:Nat):Int):=by omega
  rw[if_neg h4]at hq;generalize hm:(l.length+1)/2=m at *;have hvl:(l.map (·.num)).length=l.length:=by simp
  obtain⟨v1,e1,i1⟩:=hk.take3 (m:=m) A0i A53 (by omega) (by omega) (by omega)
  obtain⟨v2,e2,i2⟩:=hv.take3 (m:=m) A0c A4u (by omega) (by omega) (by omega)
  have e3:=fun S (hS:Old s S)=>(hk.old hS).part (P:=P) (lo:=some (.int .i64 m)) (hi:=none) A0i A53 ⟨by simp,by simp,by simp;omega,by simp⟩
  have e4:=fun S (hS:Old s S)=>(hv.old hS).part (P:=P) (lo:=some (.int .i64 m)) (hi:=none) A0c A4u ⟨by simp,by simp,by simp;omega,by simp⟩
  have i3:=hk.part_in (lo:=m) (hi:=l.length) (by omega) (Nat.le_refl _)
  have i4:=hv.part_in (lo:=m) (hi:=l.length) (by omega) (by omega)
  rw[List.take_of_length_le (by simp)]at i3
  rw[List.take_of_length_le (by simp),<-List.map_drop]at i4
  rw[<-List.map_take]at i2;simp only[A9s,A9v,Int.toNat_natCast,hvl]at e3 e4;have h4i:¬(l.length:Int)<=4:=by omega
  have d1:=i1.1.data;have d2:=i2.1.data;have d3:=i3.1.data;have d4:=i4.1.data
  try simp -implicitDefEqProofs (disch:=first|exact dsc|fail)[hl2,h4i,hw,e1,e2,e3,e4,d1,d2,d3,d4]
  rw[bsl2 ⟨rfl,rfl⟩ ⟨rfl,rfl⟩]
  try simp -implicitDefEqProofs (disch:=first|exact dsc|fail)[]
  have hf:Fd s (s.alloc (.cells [v1,v2,.slice none 0 0] false)) o (tint o s.next 0) (fun _=>False):=(Old.alloc (.refl _)).tint
  generalize hS1:s.alloc (.cells [v1,v2,.slice none 0 0] false)=S1 at *;have n1:S1.next=s.next+1:=by rw[<-hS1];simp
  have b1:S1.heap s.next=some (.cells [v1,v2,.slice none 0 0] false):=by rw[<-hS1];simp
  generalize hS2:S1.alloc (.cells [A5c 4 kv m l.length,A5c 1 vv m l.length,.slice none 0 0] false)=S2;have n2:S2.next=s.next+2:=by rw[<-hS2];simp;omega
  have b2:S2.heap (s.next+1)=some (.cells [A5c 4 kv m l.length,A5c 1 vv m l.length,.slice none 0 0] false):=by rw[<-hS2,<-n1];simp
  have hf2:Fd S1 S2 (tint o s.next 0) (tint (tint o s.next 0) S1.next 0) (fun _=>False):=by rw[<-hS2];exact(Old.alloc (.refl _)).tint
  have hf3:Fd S2 (S2.alloc (.cells [.pointer (some ⟨s.next,0,none⟩),.pointer (some ⟨s.next+1,0,none⟩)] true)) (tint (tint o s.next 0) S1.next 0) (tint (tint (tint o s.next 0) S1.next 0) S2.next 0) (fun _=>False):=(Old.alloc (.refl _)).tint
  refine A0a (hq _ [s.next,s.next+1] _ _ ((hf.trans hf2).trans hf3) ⟨.made (b:=s.next+1+1) (St.alloc_at ⟨by omega,by omega⟩) (by simp;omega) rfl rfl (by simp),fun _ a l c e=>by cases e;exact A0d (by show S2.next<=s.next+1+1;omega)⟩ (.cons ?_ (.cons ?_ .nil)))
  ·exact A1w.fd hf3 (fun h=>h) (A1w.fd hf2 (fun h=>h) (.leaf (kv:=v1) (vv:=v2) ⟨by omega,b1⟩ (A0d (Nat.le_refl _)) (i1.fd hf (fun h=>h)) (i2.fd hf (fun h=>h))))
  ·exact A1w.fd hf3 (fun h=>h) (.leaf (kv:=A5c 4 kv m l.length) (vv:=A5c 1 vv m l.length) ⟨by omega,b2⟩ (A0d (by omega)) ((i3.fd hf (fun h=>h)).fd hf2 (fun h=>h)) ((i4.fd hf (fun h=>h)).fd hf2 (fun h=>h)))
theorem A9q{t:NT 0}(hn:A1w s o 0 n t)(ho:OkN p 0 t)(hq:∀kv vv ρ ρ' S,Old s S->A0s.Own S kv ρ (A0m t)->(intE .u64).Own S vv ρ' ((A0m t).map (·.num))->(∀b,ρ=some b->s.next<=b)->(∀b,ρ'=some b->s.next<=b)->(∀b,ρ=some b->ρ'≠some b)->Q (.tuple #[kv,vv]) S) :
  CC X 196 [.pointer (some ⟨n,0,none⟩)] Q s:=by
 obtain⟨kv,vv,h1,h2,h3,h4⟩:=hn;have h4l:=ho.1;have hl:=fun S=>h3.1.len (P:=P) (s':=S) A0i;have hvl:((A0m t).map (·.num)).length=(A0m t).length:=by simp
 refine E94 rfl ?_;have hm:=E4d (e:=43) (n:=1) (b:=8) (z:=[.int .u64 0]) (q:=.i64) (q':=.i64) (l:=(A0m t).length) ⟨by omega,by omega⟩
 try simp -implicitDefEqProofs (disch:=first|exact dsc|fail)[h1.eq,hl,hm]
 have hb:8*(A0m t).length<=140737488355328:=by omega
 refine E1k h3.1 (by omega) fun kv' S hN=>?_
 have h1S:=h1.old hN.old_;obtain⟨ρ,g1,g2,g3⟩:=hN;have hle:=g2.le;have hnS:=h1S.lt
 try simp -implicitDefEqProofs (disch:=first|exact dsc|fail)[h1S.eq,hl,hm]
 have hvS:=(h4.old g2).1.old (S:=S.alloc (.cells (A2q [.int .u64 0] (A0m t).length) false)) (by simp)
 refine D35 hvS St.alloc_self (by simp) (by simp) ?_
 try simp -implicitDefEqProofs (disch:=first|exact dsc|fail)[]
 refine A0a (hq kv' _ ρ (some S.next) _ (g2.trans (Old.alloc (.refl _))) (g1.same (by simp) (fun b hb=>by subst hb;have:=g1.lt;rw[St.alloc_old this])) ?_ g3 (fun b hb=>by cases hb;omega) (fun b hb e=>by subst hb;have:=g1.lt;cases e;omega))
 have:=Enc.Own.row (E:=intE .u64) (s:=S.alloc (.cells ((intE .u64).row ((A0m t).map (·.num))) false)) (b:=S.next) (c:=(A0m t).length) (xs:=(A0m t).map (·.num)) (post:=[]) (tl:=false) (by simp) (by rw[St.alloc_self,List.append_nil]) (.inr ⟨by show _<18446744073709551616;omega,by omega,by omega⟩)
 rwa [hvl]at this
theorem Enc.Own.imn{α:Type}{w:Nat}{E:Enc α w}{S:St}{o:Nat->Nat}{v:Value}{ρ:Option Nat}{xs:List α}(h:E.Own S v ρ xs)(hρ:∀b,ρ=some b->o b=0):Im E S o v xs:=by
 refine⟨h.in_,fun hx a l c e=>?_⟩;obtain⟨b,c',post,tl,rfl,rfl,_⟩:=h.ne hx;cases e;exact hρ b rfl
theorem C2f:∀{h:Nat} {n:Nat} {t:NT h} {s:St} {o:Nat->Nat} {Q:Post},A1w s o h n t->OkN p h t->
  (∀v qs S o',Fd s S o o' (fun _=>False)->Im ptrE S o' v qs->A1i S o' h qs (putN h t k)->Q v S)->CC X 253 [.pointer (some ⟨n,0,none⟩),A5b k,.int .u64 k.num] Q s
 | 0,n,t,s,o,Q,hn,ho,hq=>by
  have hlt:=hn.lt;have h4l:=ho.1;unfold putN at hq;refine C3o rfl ?_
  try simp -implicitDefEqProofs (disch:=first|exact dsc|fail)[A0j A0g]
  have o1:Old s (s.alloc (.cells (A0s.cells k) false)):=by simp
  have hb0:(s.alloc (.cells (A0s.cells k) false)).heap s.next=some (.cells (A0s.cells k) false):=St.alloc_self
  simp only[A1p]at o1 hb0;generalize hs1:s.alloc (.cells [.int .i64 k.br,.int .i64 k.vol,.int .i64 k.blk,.int .u64 k.num] false)=s1 at *;have n1:s1.next=s.next+1:=by rw[<-hs1];simp
  refine A1n (hn.old o1) ho ?_
  try simp -implicitDefEqProofs (disch:=first|exact dsc|fail)[hb0]
  refine A7t (hn.old o1) ho ?_
  try simp -implicitDefEqProofs (disch:=first|exact dsc|fail)[B6o]
  refine A9q (hn.old o1) ho fun kv vv ρ ρ' S o2 w1 w2 r1 r2 r3=>?_;have oS:=o1.trans o2;have hle1:=o1.le;have hle2:=o2.le;have hb1:=(o2.eq (b:=s.next) (by omega)).trans hb0
  have hfl:=B1q (l:=A0y 0 t) (k:=k);have hks:A0y 0 t=A0m t:=rfl;rw[hks]at hfl;by_cases hhad:(A07 (A0m t) k).2=true
  ·rw[if_pos hhad]at hq;obtain⟨hi,he⟩:=B10 hhad;have hI:=w2.in_;have hnl:((A0m t).map (·.num)).length=(A0m t).length:=by simp
   try simp -implicitDefEqProofs (disch:=first|exact dsc|fail)[hks,hhad,hI.idx,hi]
   refine w2.store1 (a:=k.num) (by omega) rfl rfl fun S3 w3 c3 n3=>?_
   have hset:((A0m t).map (·.num)).set (A07 (A0m t) k).1 k.num=(A0m t).map (·.num):=by
    apply List.ext_getElem
    ·simp
    ·intro j h1 h2;rw[List.getElem_set];split
     ·rename_i e;subst e;simp[he]
     ·rfl
   rw[hset]at w3;have hne:∀b,ρ=some b->b≠S.next:=fun b hb e=>by subst hb;have:=w1.lt;omega
   have d1:=w1.in_.data;have d2:=w3.in_.data
   try simp -implicitDefEqProofs (disch:=first|exact dsc|fail)[d1,d2]
   rw[bsl1 ⟨rfl,rfl⟩]
   try simp -implicitDefEqProofs (disch:=first|exact dsc|fail)[]
   have c3':Old s S3:=⟨by omega,fun {b} hb=>by rw[c3.eq (by omega) (fun e=>by have:=r2 b e;omega)];exact oS.eq hb⟩
   have k1:Im A0s S3 (tint o s.next 0) kv (A0m t):=(w1.same (by omega) (fun b hb=>c3.eq (by subst hb;exact w1.lt) (fun e=>r3 b hb e))).imn (fun b hb=>A0d (by have:=r1 b hb;omega))
   have k2:Im (intE .u64) S3 (tint o s.next 0) vv ((A0m t).map (·.num)):=w3.imn (fun b hb=>A0d (by have:=r2 b hb;omega))
   have f1:Fd s S3 o (tint o s.next 0) (fun _=>False):=c3'.tint
   have f2:Fd S3 (S3.alloc (.cells [kv,vv,.slice none 0 0] false)) (tint o s.next 0) (tint (tint o s.next 0) S3.next 0) (fun _=>False):=(Old.alloc (.refl _)).tint
   have f3:Fd (S3.alloc (.cells [kv,vv,.slice none 0 0] false)) ((S3.alloc (.cells [kv,vv,.slice none 0 0] false)).alloc (.cells [.pointer (some ⟨S3.next,0,none⟩)] true)) (tint (tint o s.next 0) S3.next 0) (tint (tint (tint o s.next 0) S3.next 0) (S3.next+1) 0) (fun _=>False):=(Old.alloc (.refl _)).tint
   refine A0a (hq _ [S3.next] _ _ ((f1.trans f2).trans f3) ⟨.made (b:=S3.next+1) (St.alloc_at (by simp)) (by simp) rfl rfl (by simp),fun _ a l c e=>by cases e;exact A0d (Nat.le_refl _)⟩ (.cons ?_ .nil))
   exact A1w.fd f3 (fun h=>h) (.leaf (l:=A0m t) (kv:=kv) (vv:=vv) ⟨by simp,by simp⟩ (A0d (Nat.le_refl _)) (k1.fd f2 (fun h=>h)) (k2.fd f2 (fun h=>h)))
  ·rw[if_neg hhad]at hq
   try simp -implicitDefEqProofs (disch:=first|exact dsc|fail)[hks,hhad,hb1]
   rw[B9b (E:=A0s) (a:=k) rfl rfl rfl (by decide)]
   try simp -implicitDefEqProofs (disch:=first|exact dsc|fail)[]
   have hne:ρ≠some S.next:=fun e=>by subst e;have:=w1.lt;omega
   have hne':ρ'≠some S.next:=fun e=>by subst e;have:=w2.lt;omega
   refine D6e (ub:=S.next) (y:=k) (w1.same (by simp) (fun b hb=>St.alloc_old (by subst hb;exact w1.lt))) (by simp) St.alloc_self hne (by omega) hfl fun kv' S3 ρk g1 g2 g3=>?_
   have hle3:=g2.le;simp only[St.alloc_next]at hle3 g3;rw[hks]
   try simp -implicitDefEqProofs (disch:=first|exact dsc|fail)[]
   rw[bsl1 ⟨rfl,rfl⟩]
   try simp -implicitDefEqProofs (disch:=first|exact dsc|fail)[]
   have w2a:(intE .u64).Own (S3.alloc (.cells [.int .u64 k.num] true)) vv ρ' ((A0m t).map (·.num)):=w2.same (by simp;omega) (fun b hb=>by
    have hbl:b<S.next:=by subst hb;exact w2.lt
    rw[St.alloc_old (by omega),g2.eq (by simp;omega) (fun e=>r3 b e hb),St.alloc_old hbl])
   have hne3:ρ'≠some S3.next:=fun e=>by subst e;have:=w2.lt;omega
   refine E1a (ub:=S3.next) (y:=k.num) w2a (by simp) St.alloc_self hne3 (by simp;omega) (by simp;omega) fun vv' S4 ρv q1 q2 q3=>?_
   have hle4:=q2.le;simp only[St.alloc_next]at hle4 q3;have hmap:((A0m t).map (·.num)).take (A07 (A0m t) k).1++k.num::((A0m t).map (·.num)).drop (A07 (A0m t) k).1=((A0m t).take (A07 (A0m t) k).1++k::(A0m t).drop (A07 (A0m t) k).1).map (·.num):=by simp[List.map_take,List.map_drop]
   rw[hmap]at q1;have oS3:Old s S3:=⟨by omega,fun {b} hb=>by rw[g2.eq (by simp;omega) (fun e=>by have:=r1 b e;omega),St.alloc_old (by omega)];exact oS.eq hb⟩
   have oS4:Old s S4:=⟨by omega,fun {b} hb=>by rw[q2.eq (by simp;omega) (fun e=>by have:=r2 b e;omega),St.alloc_old (by omega)];exact oS3.eq hb⟩
   have hρk:∀b,ρk=some b->s.next<=b/\ρ'≠some b:=fun b hb=>(g3 b hb).elim (fun e=>⟨by have:=r1 b e;omega,r3 b e⟩) (fun e=>⟨by omega,fun e2=>by subst e2;have:=w2.lt;omega⟩)
   have k1:Im A0s S4 (tint o s.next 0) kv' ((A0m t).take (A07 (A0m t) k).1++k::(A0m t).drop (A07 (A0m t) k).1):=(g1.same (by omega) (fun b hb=>by
    have hbl:b<S3.next:=by subst hb;exact g1.lt
    rw[q2.eq (by simp;omega) (fun e=>(hρk b hb).2 e),St.alloc_old hbl])).imn (fun b hb=>A0d (hρk b hb).1)
   have k2:Im (intE .u64) S4 (tint o s.next 0) vv' (((A0m t).take (A07 (A0m t) k).1++k::(A0m t).drop (A07 (A0m t) k).1).map (·.num)):=q1.imn (fun b hb=>A0d ((q3 b hb).elim (fun e=>by have:=r2 b e;omega) (fun e=>by omega)))
   try simp -implicitDefEqProofs (disch:=first|exact dsc|fail)[]
   refine B51 k1 k2 (by simp;omega) fun v qs S5 o5 f5 x1 x2=>?_
   try simp -implicitDefEqProofs (disch:=first|exact dsc|fail)[]
   exact A0a (hq v qs S5 o5 (oS4.tint.trans f5) x1 x2)
 | h+1,n,t,s,o,Q,hn,ho,hq=>by
  have hlt:=hn.lt;obtain⟨g1,g2,g3⟩:=ho;obtain⟨kv,dv,ps,h1,h2,h3,h4,h5⟩:=hn.kids;have hps:=h5.1;have hi:=C53 (l:=A0y (h+1) t) (k:=k) (by rw[A4a];exact g1)
  rw[A4a]at hi;have hi:(fIn (A0y (h+1) t) k).1<(kids t).length:=hi;unfold putN at hq;rw[List.getElem?_eq_getElem hi]at hq;simp only at hq;have hokk:=g3 _ (List.getElem_mem hi);have htwo:=B1w (h:=h) (t:=(kids t)[(fIn (A0y (h+1) t) k).1]) (k:=k);have hokp:=B1w (h:=h) (t:=(kids t)[(fIn (A0y (h+1) t) k).1]) (k:=k);refine C3o rfl ?_
  try simp -implicitDefEqProofs (disch:=first|exact dsc|fail)[A0j A0g]
  have o1:Old s (s.alloc (.cells (A0s.cells k) false)):=by simp
  have hb0:(s.alloc (.cells (A0s.cells k) false)).heap s.next=some (.cells (A0s.cells k) false):=St.alloc_self
  simp only[A1p]at o1 hb0;generalize hs1:s.alloc (.cells [.int .i64 k.br,.int .i64 k.vol,.int .i64 k.blk,.int .u64 k.num] false)=s1 at *;have n1:s1.next=s.next+1:=by rw[<-hs1];simp
  have hn1:=hn.old o1;refine A1n hn1 ⟨g1,g2,g3⟩ ?_
  try simp -implicitDefEqProofs (disch:=first|exact dsc|fail)[hb0]
  refine C62 hn1 ⟨g1,g2,g3⟩ ?_;generalize (fIn (A0y (h+1) t) k).1=i at *;have hip:i<ps.length:=by omega
  have e1:=fun S (hS:Old s S)=>(h4.old hS).part (P:=P) (lo:=none) (hi:=some (.int .i64 i)) A0k A56 ⟨by simp,by simp,by simp,by simp;omega⟩
  have e2:=fun S (hS:Old s S)=>(h4.old hS).part (P:=P) (lo:=some (.int .i64 ((i:Int)+1))) (hi:=none) A0k A56 ⟨by simp;omega,by simp,by simp only[A9s,A9v];omega,by simp⟩
  simp only[A9s,A9v,Int.toNat_natCast]at e1 e2;have i1:=h4.part_in (lo:=0) (hi:=i) (by omega) (by omega)
  have i2:=h4.part_in (lo:=i+1) (hi:=ps.length) (by omega) (Nat.le_refl _)
  rw[List.drop_zero,Nat.sub_zero]at i1;rw[List.take_of_length_le (by simp)]at i2
  have ei:((i:Int)+1).toNat=i+1:=by omega
  rw[ei]at e2;have h4':=h4.old o1;have h1':=h1.old o1;have e1s:=e1 s1 o1;have e2s:=e2 s1 o1
  try simp -implicitDefEqProofs (disch:=first|exact dsc|fail)[h1'.eq,hb0,h4'.1.idx,h4'.1.one,hip,e1s,e2s]
  refine C2f ((h5.2 i hip hi).old o1) hokk fun v qs S o' f1 x1 x2=>?_;have oS:=f1.chg.old (fun _ _ h=>h);have oS':=o1.trans oS;have h1S:=h1.old oS';have j1:=i1.old oS';have j2:=i2.old oS';have d1:=j1.1.data;have d2:=j2.1.data;have d3:=x1.1.data;have hnS:=h1S.lt
  try simp -implicitDefEqProofs (disch:=first|exact dsc|fail)[h1S.eq,e1 S oS',e2 S oS']
  rw[bsl3 d1 d3 d2];have lqs:=x2.1
  try simp -implicitDefEqProofs (disch:=first|exact dsc|fail)[]
  refine B8l (vs:=[A5c 1 dv 0 i,v,A5c 1 dv (i+1) ps.length]) (xss:=[ps.take i,qs,ps.drop (i+1)]) (.made St.alloc_self (by simp) rfl rfl (by simp)) rfl (fun j hj hj'=>?_) (by simp) (by simp[lens];omega) fun v4 S4 w4=>?_
  ·match j with
   | 0=>exact(j1.old (by simp)).1
   | 1=>exact(x1.old (by simp)).1
   | 2=>exact(j2.old (by simp)).1
  ·have f0:Fd s s1 o o (fun _=>False):=o1.fd;have f2:Fd S S4 o' (tint o' S.next 0) (fun _=>False):=(Old.alloc (.refl _) |>.trans w4.old_).tint
   have hN:A1i S4 (tint o' S.next 0) h (ps.take i++(qs++ps.drop (i+1))) ((kids t).take i++(putN h (kids t)[i] k++(kids t).drop (i+1))):=
    A1i.append ((h5.take.fd ((f0.trans f1).trans f2) (fun h=>h))) ((x2.fd f2 (fun h=>h)).append (h5.drop.fd ((f0.trans f1).trans f2) (fun h=>h)))
   have hI:Im ptrE S4 (tint o' S.next 0) v4 (ps.take i++(qs++ps.drop (i+1))):=by
    obtain⟨ρ,y1,y2,y3⟩:=w4;have:=y1.imn (o:=tint o' S.next 0) (fun b hb=>A0d (by have:=y3 b hb;simp at this;omega))
    simpa using this
   try simp -implicitDefEqProofs (disch:=first|exact dsc|fail)[]
   refine A98 hI hN (by simp;omega) fun v5 qs5 S5 o5 f5 x5 y5=>?_
   try simp -implicitDefEqProofs (disch:=first|exact dsc|fail)[]
   exact A0a (hq v5 qs5 S5 o5 (((f0.trans f1).trans f2).trans f5) x5 y5)
end
end Go.Zz
