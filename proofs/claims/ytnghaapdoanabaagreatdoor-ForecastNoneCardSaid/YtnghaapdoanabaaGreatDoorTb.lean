import Derived.Test.YtnghaapdoanabaaGreatDoorTa
import Derived.Test.YtnghaapdoanabaaGreatDoorWS
set_option linter.all false
namespace Go.Zz
open Go
structure B14(n0:Nat)(J:(Nat->Prop)->St->Prop):Prop where
 lt:∀{M S b},J M S->M b->n0<=b/\b<S.next
 st:∀{M S S'},J M S->S.next<=S'.next->(∀b,b<n0\/M b->S'.heap b=S.heap b)->J M S'
structure Kept(n0:Nat)(S S':St)(M M':Nat->Prop):Prop where
 le:S.next<=S'.next
 eq:∀b,n0<=b->b<S.next->¬M b->S'.heap b=S.heap b
 own:∀b,M' b->M b\/S.next<=b
def B6u(C:A33)(y n0:Nat)(args:List Value)(J J' D:(Nat->Prop)->St->Prop):Prop:=
 ∀(M:Nat->Prop) (S:St) (Q:Post),J M S->(∀M' S',J' M' S'->Kept n0 S S' M M'->Q (.bool true) S')->(∀M' S',D M' S'->Kept n0 S S' M M'->Q (.bool false) S')->C (tok y) args Q S
section
variable {α : Type} {w : Nat} {E : Enc α w} {xs ys : List α} {s0 S S' : St} {bx : Nat} {M : Nat → Prop}
def JC(E:Enc α w)(s0:St)(bx:Nat)(xs:List α)(M:Nat->Prop)(S:St):Prop:=
 ∃v ρ,S.heap bx=some (.cells [v] false)/\E.Own S v ρ xs/\(∀b,ρ=some b->s0.next<=b)/\(∀b,b<s0.next->b≠bx->S.heap b=s0.heap b)/\s0.next<=S.next/\bx<s0.next/\M=Row ρ
theorem JC.looper:B14 s0.next (JC E s0 bx xs) where
 lt:=by
  rintro M S b ⟨v,ρ,h1,h2,h3,h4,h5,h6,rfl⟩ hb;have hb:ρ=some b:=hb;subst hb;exact⟨h3 b rfl,h2.lt⟩
 st:=by
  rintro M S S' ⟨v,ρ,h1,h2,h3,h4,h5,h6,rfl⟩ hn hs;exact⟨v,ρ,(hs bx (.inl h6)).trans h1,h2.same hn (fun b hb=>hs b (.inr hb)),h3,fun b hb hne=>(hs b (.inl hb)).trans (h4 b hb hne),by omega,h6,rfl⟩
theorem JC.start{v:Value}(hx:S.heap bx=some (.cells [v] false))(hv:v=.slice none 0 0)(hb:bx<S.next):JC E S bx [] (fun _=>False) S:=by
 subst hv;refine⟨_,none,hx,.nil,fun b h=>?_,fun _ _ _=>rfl,Nat.le_refl _,hb,?_⟩
 ·cases h
 ·funext b;simp[Row]
theorem JC.round{y:Nat}{rdy bsy:AObj}(h:JC E s0 bx xs M S)(hy:y<s0.next)(hyb:y≠bx)(hr:s0.heap y=some rdy) :
  S.heap y=some rdy/\∃v ρ,S.heap bx=some (.cells [v] false)/\M=Row ρ/\(S.put y bsy).heap bx=some (.cells [v] false)/\E.Own (S.put y bsy) v ρ xs/\(∀b,ρ=some b->s0.next<=b)/\Chg s0 (S.put y bsy) (fun b=>b=bx\/b=y)/\(S.put y bsy).heap y=some bsy/\bx<s0.next/\
  ∀(S2:St) v' ρ' ys,S2.heap bx=some (.cells [v'] false)->E.Own S2 v' ρ' ys->Chg (S.put y bsy) S2 (fun b=>b=bx\/Row ρ b)->(∀b,ρ'=some b->ρ=some b\/S.next<=b)->S2.heap y=some bsy/\JC E s0 bx ys (Row ρ') (S2.put y rdy)/\Kept s0.next S (S2.put y rdy) M (Row ρ'):=by
 obtain⟨v,ρ,h1,h2,h3,h4,h5,h6,rfl⟩:=h;have hρy:∀b,ρ=some b->b≠y:=fun b hb=>by have:=h3 b hb;omega
 refine⟨(h4 y hy hyb).trans hr,v,ρ,h1,rfl,(St.put_other hyb.symm).trans h1,h2.same (by simp) (fun b hb=>St.put_other (hρy b hb)),h3,⟨by simpa using h5,fun {b} hb hm=>?_⟩,St.put_self,h6,?_⟩
 ·rw[St.put_other (fun e=>hm (.inr e)),h4 b hb (fun e=>hm (.inl e))]
 ·intro S2 v' ρ' ys g1 g2 g3 g4;have hρ'y:∀b,ρ'=some b->b≠y:=fun b hb=>by
   rcases g4 b hb with e|e
   ·exact hρy b e
   ·omega
  have hle:=g3.le;simp only[St.put_next]at hle;refine⟨(g3.eq (b:=y) (by simp;omega) (fun hm=>hm.elim hyb (fun e=>hρy y e rfl))).trans St.put_self,⟨v',ρ',(St.put_other hyb.symm).trans g1,g2.same (by simp) (fun b hb=>St.put_other (hρ'y b hb)),fun b hb=>?_,fun b hb hne=>?_,by simp;omega,h6,rfl⟩,⟨by simpa using hle,fun b hb hlt hm=>?_,g4⟩⟩
  ·rcases g4 b hb with e|e
   ·exact h3 b e
   ·omega
  ·by_cases hby:b=y
   ·subst hby;rw[St.put_self];exact hr.symm
   ·rw[St.put_other hby,g3.eq (by simp;omega) (fun hm=>hm.elim hne (fun e=>by have:=h3 b e;omega)),St.put_other hby]
    exact h4 b hb hne
  ·have hby:b≠y:=by omega
   rw[St.put_other hby,g3.eq (by simpa using hlt) (fun hmm=>hmm.elim (fun e=>by omega) hm),St.put_other hby]
end
theorem A74{b:Nat}{L:List Value}{ps:Array Tmp}{aC bd:Code}{K:A0l}{A:Fr}{s:St}(h:s.heap b=some (.loop L ps aC bd .ready none))(hk:K .normal A (s.put b (.loop L ps aC bd .exhausted none))):rfK b K A s:=by
 unfold rfK;rw[h];exact⟨by simp,hk⟩
theorem F07{b:Nat}{L:List Value}{ps:Array Tmp}{aC bd:Code}{K:A0l}{A:Fr}{s:St}(h:s.heap b=some (.loop L ps aC bd .done (some .ret)))(hk:K .ret A (s.put b (.loop L ps aC bd .exhausted (some .ret)))):rfK b K A s:=by
 unfold rfK;rw[h];exact⟨by simp,hk⟩
theorem B1n.entry{α:Type}{q:IntKind}{f:α->Value}{s:St}{it b:Nat}{l vis:List (Int×α)}{p:Int×α}{k:Post}(h:B1n q f s it b l (vis++[p]))(hk:k (.tuple #[.int q p.1,f p.2]) s):A7k (.pointer (some ⟨it,0,none⟩)) k s:=by
 obtain⟨bs,c,js,h1,h2,h3,h4,h5,h6⟩:=h.at_;have hne:js≠[]:=fun e=>by subst e;simp at h6
 obtain⟨js',j,rfl⟩:∃js' j,js=js'++[j]:=⟨js.dropLast,js.getLast hne,(List.dropLast_concat_getLast hne).symm⟩;have h7:l[j]?=some p:=by
  rw[List.map_append,List.map_append]at h6;have:=List.append_inj_right' h6 (by simp)
  simpa using this.symm
 obtain⟨bs',c',g1,g2,_⟩:=h.map.eq;rw[h1]at g1;cases g1;have hj:=h5 j (by simp)
 have hjb:j<bs.length:=by omega
 simp only[A7k,h3,h1];refine⟨trivial,trivial,bs[j],j,(.int q p.1,f p.2),?_,List.getElem?_eq_getElem hjb,?_,hk⟩
 ·simp[List.getD_eq_getElem?_getD,hjb]
 ·simp[kv,h7]
theorem A38{α:Type}:∀{l1 l2:List α},l1.Nodup->(∀x∈l1,x∈l2)->l1.length<=l2.length
 | [],_,_,_=>Nat.zero_le _
 | a::t,l2,h,hs=>by
  obtain⟨u,r,rfl⟩:=List.append_of_mem (hs a (by simp))
  rw[List.nodup_cons]at h;have:=A38 (l1:=t) (l2:=u++r) h.2 (fun x hx=>by
   have:=hs x (by simp[hx])
   simp only[List.mem_append,List.mem_cons]at this ⊢;rcases this with e|e|e
   ·exact .inl e
   ·exact absurd (e▸hx) h.1
   ·exact .inr e)
  simp at this ⊢;omega
end Go.Zz
set_option maxRecDepth 20000
set_option linter.all false
namespace Go.Zz
open Go
variable {X : Y0}
def dd:List Int->List Int
 | []=>[]
 | [a]=>[a]
 | a::b::r=>if a=b then dd (b::r)else a::dd (b::r)
theorem D9f(a b:Int):∀l:List Int,dd (l++[a,b])=dd (l++[a])++if a=b then []else [b]
 | []=>by by_cases h:a=b<;>simp[dd,h]
 | [x]=>by
  simp only[List.cons_append,List.nil_append,dd];by_cases h:a=b<;>by_cases g:x=a<;>simp[h,g]
 | x::y::l=>by
  have:=D9f a b (y::l);simp only[List.cons_append]at this;simp only[List.cons_append,dd];split
  ·exact this
  ·rw[this,List.cons_append]
theorem C2y{x:Int}:∀{l:List Int},x∈dd l↔x∈l
 | []=>by simp[dd]
 | [a]=>by simp[dd]
 | a::b::r=>by
  have:=C2y (x:=x) (l:=b::r);simp only[dd];split
  ·rename_i h;subst h;rw[this];simp
  ·rw[List.mem_cons,this];simp
theorem B41:∀{l:List Int},l.Pairwise (·<=·)->(dd l).Pairwise (·<·)
 | [],_=>by simp[dd]
 | [a],_=>by simp[dd]
 | a::b::r,h=>by
  rw[List.pairwise_cons]at h;have:=B41 h.2;simp only[dd];split
  ·exact this
  ·rename_i hab;rw[List.pairwise_cons];refine⟨fun x hx=>?_,this⟩;rw[C2y]at hx;have h1:=h.1 b (by simp)
   have h2:b<=x:=by
    rcases List.mem_cons.1 hx with e|e
    ·omega
    ·exact(List.pairwise_cons.1 h.2).1 x e
   omega
theorem C2c(l:List Int):(dd l).length<=l.length:=by
 induction l using dd.induct with
 | case1=>simp[dd]
 | case2=>simp[dd]
 | case3 a r ih=>simp only[dd,if_true];simp at ih ⊢;omega
 | case4 a b r h ih=>simp only[dd,if_neg h];simp at ih ⊢;omega
theorem B87{xs:List Int}{n:Nat}(h:n+1<xs.length):dd (xs.take (n+2))=dd (xs.take (n+1))++if gt xs n=gt xs (n+1)then []else [gt xs (n+1)]:=by
 have h1:xs.take (n+2)=xs.take n++[gt xs n,gt xs (n+1)]:=by
  rw[<-List.take_append_getElem h,<-List.take_append_getElem (Nat.lt_of_succ_lt h),C8z,C8z];simp
 have h2:xs.take (n+1)=xs.take n++[gt xs n]:=by
  rw[<-List.take_append_getElem (Nat.lt_of_succ_lt h),C8z]
 rw[h1,h2,D9f]
theorem B2b{xs:List Int}{n k:Nat}:gt (xs.drop n) k=gt xs (n+k):=by simp[gt,List.getElem?_drop]
theorem C0g{xs:List Int}{n k:Nat}(h:k<n):gt (xs.take n) k=gt xs k:=by simp[gt,List.getElem?_take,h]
theorem A9t{xs ys:List Int}{n k:Nat}(h:ys.drop n=xs.drop n)(hk:n<=k):gt ys k=gt xs k:=by
 have:=B2b (xs:=ys) (n:=n) (k:=k-n);rw[h,B2b,show n+(k-n)=k by omega]at this
 exact this.symm
theorem C1o{v:Value}{ρ:Option Nat}{xs:List Int}{Q:Post}{s:St}(hv:(intE .u64).Own s v ρ xs)(hlen:xs.length<1000000000)
  (hq:∀v' S,(intE .u64).Own S v' ρ (dd xs)->Chg s S (Row ρ)->Q v' S):CC X 35 [v] Q s:=by
 refine G2p rfl ?_;have hI:=hv.in_;have hlv:=fun S=>hI.len (P:=P) (s':=S) A0c;by_cases h2:xs.length<2
 ·have h2':(xs.length:Int)<2:=by omega
  try simp -implicitDefEqProofs (disch:=first|exact dsc|fail)[hlv,h2']
  refine hq v s ?_ ⟨Nat.le_refl _,fun _ _=>rfl⟩;have:dd xs=xs:=by
   match xs,h2 with
   | [],_=>rfl
   | [a],_=>rfl
  rwa [this]
 have h2':¬(xs.length:Int)<2:=by omega
 try simp -implicitDefEqProofs (disch:=first|exact dsc|fail)[hlv,h2']
 refine D9h fun I hI0=>?_;have key:∀k,k<=xs.length->1<=k->dd (xs.take k)=xs.take k->∀u,I v u (.int .i64 k) s:=by
  refine up fun k hk ih h1 hd u=>hI0 _ _ _ _ ?_;by_cases hlt:k<xs.length
  ·have hk1:(k:Int)-1=(k-1:Nat):=by omega
   have hdt:=B87 (xs:=xs) (n:=k-1) (by omega)
   rw[show k-1+2=k+1 by omega,show k-1+1=k by omega]at hdt
   by_cases he:gt xs k=gt xs (k-1)
   ·try simp -implicitDefEqProofs (disch:=first|exact dsc|fail)[hlt,hlv,hk1,hI.idx,hI.get,he,hI.part A0c A4u]
    refine D2s fun I2 hI2=>?_;have inner:∀j,j<=xs.length-k->1<=j->∀(m:Nat) S ys,ys.length=xs.length->m<k+j->dd (xs.take (k+j))=ys.take m->ys.drop (k+j-1)=xs.drop (k+j-1)->(intE .u64).Own S v ρ ys->Chg s S (Row ρ)->
      I2 v (.int .i64 m) (A5c 1 v k xs.length) (.int .i64 j) S:=by
     refine up fun j hj ihj h1j m S ys hl hm hdd hdr hS hc=>hI2 _ _ _ _ _ ?_;have hSI:=hS.in_;have hP:=hSI.part_in (lo:=k) (hi:=xs.length) (by omega) (by omega)
     have hPl:((ys.drop k).take (xs.length-k)).length=xs.length-k:=by simp;omega
     have hpl:=hP.len (P:=P) (s':=S) A0c;rw[hPl]at hpl;by_cases hjl:j<xs.length-k
     ·have hj1:(j:Int)-1=(j-1:Nat):=by omega
      have hjl':(j:Int)<(xs.length-k:Nat):=by omega
      have g1:gt ((ys.drop k).take (xs.length-k)) j=gt xs (k+j):=by rw[C0g hjl,B2b];exact A9t hdr (by omega)
      have g2:gt ((ys.drop k).take (xs.length-k)) (j-1)=gt xs (k+j-1):=by rw[C0g (by omega),B2b,show k+(j-1)=k+j-1 by omega];exact A9t hdr (Nat.le_refl _)
      have i1:j<((ys.drop k).take (xs.length-k)).length:=by omega
      have i2:j-1<((ys.drop k).take (xs.length-k)).length:=by omega
      have l1:=hP.get (n:=1) i1;have l2:=hP.get (n:=1) i2;rw[g1]at l1;rw[g2]at l2;have a1:=hP.idx (q:=.i64) (ag:=false) (j:=(j:Int)) (by omega) (by omega)
      have a2:=hP.idx (q:=.i64) (ag:=false) (j:=((j-1:Nat):Int)) (by omega) (by omega)
      have hdt:=B87 (xs:=xs) (n:=k+j-1) (by omega)
      rw[show k+j-1+2=k+j+1 by omega,show k+j-1+1=k+j by omega,hdd]at hdt
      have hml:(ys.take m).length=m:=by simp;omega
      by_cases hne:gt xs (k+j)=gt xs (k+j-1)
      ·try simp -implicitDefEqProofs (disch:=first|exact dsc|fail)[hpl,hjl',hj1,a1,a2,l1,l2,hne]
       have:=ihj hjl (by omega) m S ys hl (by omega) (by rw[<-Nat.add_assoc,hdt,if_pos hne.symm];simp) (by
        rw[show k+(j+1)-1=k+j-1+1 by omega,<-List.drop_drop,<-List.drop_drop,hdr]) hS hc
       simpa using this
      ·have im:m<ys.length:=by omega
       have a3:=hSI.idx (q:=.i64) (ag:=false) (j:=(m:Int)) (by omega) (by omega)
       try simp -implicitDefEqProofs (disch:=first|exact dsc|fail)[hpl,hjl',hj1,a1,a2,a3,l1,l2,hne]
       refine hS.store1 (a:=gt xs (k+j)) im rfl rfl fun S' w1 w2 w3=>?_
       try simp -implicitDefEqProofs (disch:=first|exact dsc|fail)[]
       have:=ihj hjl (by omega) (m+1) S' (ys.set m (gt xs (k+j))) (by simpa using hl) (by omega) (by rw[<-Nat.add_assoc,hdt,if_neg (fun e=>hne e.symm),B07 im]) (by
        rw[List.drop_set_of_lt (by omega),show k+(j+1)-1=k+j-1+1 by omega,<-List.drop_drop,<-List.drop_drop,hdr]) w1 (hc.trans w2 (fun b hb=>.inl hb))
       simpa using this
     ·have hjx:k+j=xs.length:=by omega
      have hjl':¬(j:Int)<(xs.length-k:Nat):=by omega
      rw[hjx,List.take_length]at hdd;have hml:(ys.take m).length=m:=by simp;omega
      have hpt:=hSI.part (P:=P) (lo:=some (.int .i64 (m:Int))) (hi:=none) A0c A4u (by simp;omega)
      try simp -implicitDefEqProofs (disch:=first|exact dsc|fail)[hpl,hjl',hpt]
      refine hS.clear (z:=0) (by omega) A1o (by decide) fun S' w1 w2 w3=>?_
      have hpt2:=w1.in_.part (P:=P) (hi:=some (.int .i64 (m:Int))) (lo:=none) A0c A4u (by simp;omega)
      try simp -implicitDefEqProofs (disch:=first|exact dsc|fail)[hpt2]
      refine A0a (hq _ S' ?_ (hc.trans w2 (fun b hb=>.inl hb)));have:=w1.take (j:=m) (by simp;omega)
      rw[List.take_append_of_le_length (by omega),List.take_of_length_le (by omega)]at this
      rw[hdd];exact this
    have:=inner 1 (by omega) (by omega) k s xs rfl (by omega) (by rw[hdt,if_pos he.symm,hd];simp) rfl hv ⟨Nat.le_refl _,fun _ _=>rfl⟩
    simpa using this
   ·try simp -implicitDefEqProofs (disch:=first|exact dsc|fail)[hlt,hlv,hk1,hI.idx,hI.get,he]
    have:=ih hlt (by omega) (by rw[hdt,if_neg (fun e=>he e.symm),hd,<-C8z hlt,List.take_append_getElem]) u
    simpa using this
  ·try simp -implicitDefEqProofs (disch:=first|exact dsc|fail)[hlt,hlv]
   have:k=xs.length:=by omega
   subst this;rw[List.take_length]at hd;exact hq v s (by rwa [hd]) ⟨Nat.le_refl _,fun _ _=>rfl⟩
 have:=key 1 (by omega) (Nat.le_refl _) (by
  match xs,h2 with
  | a::r,_=>rfl) (.slice none 0 0)
 simpa using this
theorem D4q{v:Value}{ρ:Option Nat}{xs:List Int}{Q:Post}{s:St}(hv:(intE .i64).Own s v ρ xs)(hlen:xs.length<1000000000)
  (hq:∀v' S,(intE .i64).Own S v' ρ (dd xs)->Chg s S (Row ρ)->Q v' S):CC X 118 [v] Q s:=by
 refine F5y rfl ?_;have hI:=hv.in_;have hlv:=fun S=>hI.len (P:=P) (s':=S) A00;by_cases h2:xs.length<2
 ·have h2':(xs.length:Int)<2:=by omega
  try simp -implicitDefEqProofs (disch:=first|exact dsc|fail)[hlv,h2']
  refine hq v s ?_ ⟨Nat.le_refl _,fun _ _=>rfl⟩;have:dd xs=xs:=by
   match xs,h2 with
   | [],_=>rfl
   | [a],_=>rfl
  rwa [this]
 have h2':¬(xs.length:Int)<2:=by omega
 try simp -implicitDefEqProofs (disch:=first|exact dsc|fail)[hlv,h2']
 refine C88 fun I hI0=>?_;have key:∀k,k<=xs.length->1<=k->dd (xs.take k)=xs.take k->∀u,I v u (.int .i64 k) s:=by
  refine up fun k hk ih h1 hd u=>hI0 _ _ _ _ ?_;by_cases hlt:k<xs.length
  ·have hk1:(k:Int)-1=(k-1:Nat):=by omega
   have hdt:=B87 (xs:=xs) (n:=k-1) (by omega)
   rw[show k-1+2=k+1 by omega,show k-1+1=k by omega]at hdt
   by_cases he:gt xs k=gt xs (k-1)
   ·try simp -implicitDefEqProofs (disch:=first|exact dsc|fail)[hlt,hlv,hk1,hI.idx,hI.get,he,hI.part A00 C0k]
    refine D1q fun I2 hI2=>?_;have inner:∀j,j<=xs.length-k->1<=j->∀(m:Nat) S ys,ys.length=xs.length->m<k+j->dd (xs.take (k+j))=ys.take m->ys.drop (k+j-1)=xs.drop (k+j-1)->(intE .i64).Own S v ρ ys->Chg s S (Row ρ)->
      I2 v (.int .i64 m) (A5c 1 v k xs.length) (.int .i64 j) S:=by
     refine up fun j hj ihj h1j m S ys hl hm hdd hdr hS hc=>hI2 _ _ _ _ _ ?_;have hSI:=hS.in_;have hP:=hSI.part_in (lo:=k) (hi:=xs.length) (by omega) (by omega)
     have hPl:((ys.drop k).take (xs.length-k)).length=xs.length-k:=by simp;omega
     have hpl:=hP.len (P:=P) (s':=S) A00;rw[hPl]at hpl;by_cases hjl:j<xs.length-k
     ·have hj1:(j:Int)-1=(j-1:Nat):=by omega
      have hjl':(j:Int)<(xs.length-k:Nat):=by omega
      have g1:gt ((ys.drop k).take (xs.length-k)) j=gt xs (k+j):=by rw[C0g hjl,B2b];exact A9t hdr (by omega)
      have g2:gt ((ys.drop k).take (xs.length-k)) (j-1)=gt xs (k+j-1):=by rw[C0g (by omega),B2b,show k+(j-1)=k+j-1 by omega];exact A9t hdr (Nat.le_refl _)
      have i1:j<((ys.drop k).take (xs.length-k)).length:=by omega
      have i2:j-1<((ys.drop k).take (xs.length-k)).length:=by omega
      have l1:=hP.get (n:=1) i1;have l2:=hP.get (n:=1) i2;rw[g1]at l1;rw[g2]at l2;have a1:=hP.idx (q:=.i64) (ag:=false) (j:=(j:Int)) (by omega) (by omega)
      have a2:=hP.idx (q:=.i64) (ag:=false) (j:=((j-1:Nat):Int)) (by omega) (by omega)
      have hdt:=B87 (xs:=xs) (n:=k+j-1) (by omega)
      rw[show k+j-1+2=k+j+1 by omega,show k+j-1+1=k+j by omega,hdd]at hdt
      have hml:(ys.take m).length=m:=by simp;omega
      by_cases hne:gt xs (k+j)=gt xs (k+j-1)
      ·try simp -implicitDefEqProofs (disch:=first|exact dsc|fail)[hpl,hjl',hj1,a1,a2,l1,l2,hne]
       have:=ihj hjl (by omega) m S ys hl (by omega) (by rw[<-Nat.add_assoc,hdt,if_pos hne.symm];simp) (by
        rw[show k+(j+1)-1=k+j-1+1 by omega,<-List.drop_drop,<-List.drop_drop,hdr]) hS hc
       simpa using this
      ·have im:m<ys.length:=by omega
       have a3:=hSI.idx (q:=.i64) (ag:=false) (j:=(m:Int)) (by omega) (by omega)
       try simp -implicitDefEqProofs (disch:=first|exact dsc|fail)[hpl,hjl',hj1,a1,a2,a3,l1,l2,hne]
       refine hS.store1 (a:=gt xs (k+j)) im rfl rfl fun S' w1 w2 w3=>?_
       try simp -implicitDefEqProofs (disch:=first|exact dsc|fail)[]
       have:=ihj hjl (by omega) (m+1) S' (ys.set m (gt xs (k+j))) (by simpa using hl) (by omega) (by rw[<-Nat.add_assoc,hdt,if_neg (fun e=>hne e.symm),B07 im]) (by
        rw[List.drop_set_of_lt (by omega),show k+(j+1)-1=k+j-1+1 by omega,<-List.drop_drop,<-List.drop_drop,hdr]) w1 (hc.trans w2 (fun b hb=>.inl hb))
       simpa using this
     ·have hjx:k+j=xs.length:=by omega
      have hjl':¬(j:Int)<(xs.length-k:Nat):=by omega
      rw[hjx,List.take_length]at hdd;have hml:(ys.take m).length=m:=by simp;omega
      have hpt:=hSI.part (P:=P) (lo:=some (.int .i64 (m:Int))) (hi:=none) A00 C0k (by simp;omega)
      try simp -implicitDefEqProofs (disch:=first|exact dsc|fail)[hpl,hjl',hpt]
      refine hS.clear (z:=0) (by omega) A5v (by decide) fun S' w1 w2 w3=>?_
      have hpt2:=w1.in_.part (P:=P) (hi:=some (.int .i64 (m:Int))) (lo:=none) A00 C0k (by simp;omega)
      try simp -implicitDefEqProofs (disch:=first|exact dsc|fail)[hpt2]
      refine A0a (hq _ S' ?_ (hc.trans w2 (fun b hb=>.inl hb)));have:=w1.take (j:=m) (by simp;omega)
      rw[List.take_append_of_le_length (by omega),List.take_of_length_le (by omega)]at this
      rw[hdd];exact this
    have:=inner 1 (by omega) (by omega) k s xs rfl (by omega) (by rw[hdt,if_pos he.symm,hd];simp) rfl hv ⟨Nat.le_refl _,fun _ _=>rfl⟩
    simpa using this
   ·try simp -implicitDefEqProofs (disch:=first|exact dsc|fail)[hlt,hlv,hk1,hI.idx,hI.get,he]
    have:=ih hlt (by omega) (by rw[hdt,if_neg (fun e=>he e.symm),hd,<-C8z hlt,List.take_append_getElem]) u
    simpa using this
  ·try simp -implicitDefEqProofs (disch:=first|exact dsc|fail)[hlt,hlv]
   have:k=xs.length:=by omega
   subst this;rw[List.take_length]at hd;exact hq v s (by rwa [hd]) ⟨Nat.le_refl _,fun _ _=>rfl⟩
 have:=key 1 (by omega) (Nat.le_refl _) (by
  match xs,h2 with
  | a::r,_=>rfl) (.slice none 0 0)
 simpa using this
abbrev SetR(q:IntKind)(s:St)(b:Nat)(l:List (Int×Unit)):Prop:=MapR q (fun _:Unit=>.bool true) s b l
def ks(l:List (Int×Unit)):List Int:=l.map (·.1)
theorem A8c{l:List (Int×Unit)}{n m:Int}:m∈ks (mput l n ())↔m=n\/m∈ks l:=by
 unfold ks;rw[C2j];split
 ·rename_i h;exact⟨.inr,fun g=>g.elim (fun e=>e▸h) id⟩
 ·simp[or_comm]
theorem F39{b bx y n0:Nat}{l:List (Int×Unit)}{J:List Int->(Nat->Prop)->St->Prop}{D:(Nat->Prop)->St->Prop}{M0:Nat->Prop}{Q:Post}{s:St}(hm:SetR .u64 s b l)(hx:s.heap bx=some (.cells [.map (some b)] false))(hn:s.next=n0)
  (hL:∀seen,B14 n0 (J seen)) (hk:∀seen M S,J seen M S->S.heap b=s.heap b) (hr:∀seen k,k∈ks l->k∉seen->seen.length<l.length->B6u (CC X) y n0 [.int .u64 k] (J seen) (J (seen++[k])) D) (h0:J [] M0 s)
  (hq:∀seen M S,seen.Perm (ks l)->J seen M S->Q (.tuple #[]) S) (hqD:∀M S,D M S->Q (.tuple #[]) S) :
  CC X 132 [.func (.yield y) #[] #[],.pointer (some ⟨bx,0,none⟩)] Q s:=by
 refine F24 rfl ?_
 try simp -implicitDefEqProofs (disch:=first|exact dsc|fail)[hx]
 refine B1n.start hm fun S1 hi hn1 ho=>?_
 try simp -implicitDefEqProofs (disch:=first|exact dsc|fail)[]
 refine D1l fun I hI=>?_;subst hn;have hbn:=hm.lt;have key:∀r vis M S,vis.length+r=l.length->B1n .u64 (fun _:Unit=>.bool true) S s.next b l vis->J (ks vis) M S->¬M s.next->I (.func (.yield y) #[] #[]) (.pointer (some ⟨s.next,0,none⟩)) S:=by
  intro r;induction r with
  | zero=>
   intro vis M S hr0 hit hJ hM;refine hI _ _ _ ?_
   try simp -implicitDefEqProofs (disch:=first|exact dsc|fail)[]
   refine hit.next (fun p hp hpv S2 _ _ _=>?_) (fun hp=>?_)
   ·exfalso;have h1:vis.Nodup/\∀x∈vis,x∈l:=by
     obtain⟨bs,c,js,_,_,_,h4,h5,h6⟩:=hit.at_;have hv:∀x,x∈vis->x∈l:=fun x hx=>by
      have:some x∈js.map fun j=>l[j]?:=by rw[<-h6];exact List.mem_map.2 ⟨x,hx,rfl⟩
      obtain⟨j,_,hj⟩:=List.mem_map.1 this;exact List.mem_of_getElem? hj
     refine⟨?_,hv⟩;have hln:l.Nodup:=List.Pairwise.of_map _ (fun a b hab e=>hab (by rw[e])) hm.nd
     have:(vis.map some).Nodup:=by
      rw[h6];refine List.Pairwise.map _ (fun a b=>?_) (List.Pairwise.and_mem.1 h4);rintro⟨ha,hb,hab⟩ e;have ha:=h5 a ha;have hb:=h5 b hb;rw[List.getElem?_eq_getElem ha,List.getElem?_eq_getElem hb]at e;exact hab (A5o hln (by simpa using e))
     exact List.Pairwise.of_map _ (fun a b hab e=>hab (by rw[e])) this
    have h2:(p::vis).Nodup:=List.nodup_cons.2 ⟨hpv,h1.1⟩;have h3:=A38 h2 (fun x hx=>(List.mem_cons.1 hx).elim (fun e=>e▸hp) (h1.2 x));simp at h3;omega
   ·try simp -implicitDefEqProofs (disch:=first|exact dsc|fail)[]
    exact A0a (hq _ M S (hp.map _) hJ)
  | succ r ih=>
   intro vis M S hr0 hit hJ hM;refine hI _ _ _ ?_
   try simp -implicitDefEqProofs (disch:=first|exact dsc|fail)[]
   refine hit.next (fun p hp hpv S2 h2 h2n h2e=>?_) (fun hp=>?_)
   ·have hJ2:J (ks vis) M S2:=(hL _).st hJ (by omega) (fun x hx=>h2e (fun e=>hx.elim (fun hx=>by omega) (fun hx=>hM (e▸hx))))
    try simp -implicitDefEqProofs (disch:=first|exact dsc|fail)[]
    refine h2.entry ?_
    try simp -implicitDefEqProofs (disch:=first|exact dsc|fail)[]
    have hkn:p.1∉ks vis:=fun hmm=>by
     obtain⟨p',hp',e⟩:=List.mem_map.1 hmm;have:p'=p:=by cases p;cases p';simp at e;rw[e]
     exact hpv (this▸hp')
    refine⟨rfl,rfl,hr (ks vis) p.1 (List.mem_map.2 ⟨p,hp,rfl⟩) hkn (by simp[ks];omega) M S2 _ hJ2 (fun M' S3 hJ3 hK=>?_) (fun M' S3 hD hK=>?_)⟩
    ·try simp -implicitDefEqProofs (disch:=first|exact dsc|fail)[]
     have hn2:s.next<S2.next:=h2.lt
     refine ih (vis++[p]) M' S3 (by simp;omega) ?_ (by simpa[ks]using hJ3) (fun hmm=>?_)
     ·refine h2.old (M:=fun x=>x≠b/\x≠s.next) ⟨hK.le,fun {x} hxl hxm=>?_⟩ (by simp) (by simp)
      by_cases hxb:x=b
      ·subst hxb;rw[hk _ _ _ hJ3,<-hk _ _ _ hJ2]
      ·have:x=s.next:=by
        by_cases e:x=s.next
        ·exact e
        ·exact absurd ⟨hxb,e⟩ hxm
       subst this;exact hK.eq _ (Nat.le_refl _) hxl hM
     ·rcases hK.own _ hmm with e|e
      ·exact hM e
      ·omega
    ·try simp -implicitDefEqProofs (disch:=first|exact dsc|fail)[]
     exact A0a (hqD M' S3 hD)
   ·try simp -implicitDefEqProofs (disch:=first|exact dsc|fail)[]
    exact A0a (hq _ M S (hp.map _) hJ)
 have hM0:¬M0 s.next:=fun h=>by have:=(hL _).lt h0 h;omega
 exact key l.length [] M0 S1 (by simp) hi ((hL []).st h0 (by omega) (fun x hx=>ho.eq (hx.elim id (fun hx=>((hL _).lt h0 hx).2)))) hM0
theorem C3n{b bx:Nat}{l:List (Int×Unit)}{Q:Post}{s:St}(hm:SetR .u64 s b l)(hx:Blk s bx [.map (some b)])(hlen:l.length<16000000)
  (hq:∀v S xs,(intE .u64).New s S v xs->xs.Perm (ks l)->Q v S):CC X 157 [.slice none 0 0,.func (.func 132) #[] #[.pointer (some ⟨bx,0,none⟩)]] Q s:=by
 refine F6a rfl ?_
 try simp -implicitDefEqProofs (disch:=first|exact dsc|fail)[]
 refine B6w fun hY=>?_;generalize hs1:s.alloc (.cells [.slice none 0 0] false)=s1 at *;have o1:Old s s1:=by subst hs1;simp
 have n1:s1.next=s.next+1:=by subst hs1;simp
 have b1:s1.heap s.next=some (.cells [.slice none 0 0] false):=by subst hs1;simp
 clear hs1;generalize hrd:AObj.loop (A6m (.pointer (some ⟨s.next,0,none⟩))) A4d A3f A29 .ready none=rd at *
 have o2:Old s1 (s1.alloc rd):=by simp
 have hml:=(hm.old o1).old o2;have hbl:=(hx.old o1).old o2;have hbn:=hm.lt;have hxn:=hx.lt;have hJC0:JC (intE .u64) (s1.alloc rd) s.next [] (fun _=>False) (s1.alloc rd):=JC.start (by rw[o2.eq (by omega)];exact b1) rfl (by simp;omega)
 try simp -implicitDefEqProofs (disch:=first|exact dsc|fail)[A96]
 refine F39 (n0:=(s1.alloc rd).next) (J:=JC (intE .u64) (s1.alloc rd) s.next) (D:=fun _ _=>False) hml hbl.eq rfl (fun seen=>JC.looper) (fun seen M S h=>?_) (fun seen k hk hks hsl M S Q' hJ hgo _=>?_) hJC0 (fun seen M S hp hJ=>?_) (fun M S h=>h.elim)
 ·obtain⟨v,ρ,g1,g2,g3,g4,g5,g6,rfl⟩:=h;exact g4 b (by simp;omega) (by omega)
 ·obtain⟨hr1,v,ρ,r0,rfl,r1,r2,r3,r4,r5,r6,hclose⟩:=hJ.round (y:=s1.next) (rdy:=rd) (bsy:=.loop (A6m (.pointer (some ⟨s.next,0,none⟩))) A4d A3f A29 .busy none) (by simp) (by omega) (by simp)
  refine hY _ _ _ hr1 ?_;subst hrd
  try simp -implicitDefEqProofs (disch:=first|exact dsc|fail)[hr1,r0]
  refine r2.push (a:=k) A1o A2m (by simp) (by simp) (by omega) (by omega) fun v' S2 ρ' w1 w2 w3=>?_
  have hnx:=r4.le;have hbx2:S2.heap s.next=some (.cells [v] false):=by
   rw[w2.eq (by simp at hnx ⊢;omega) (fun e=>by have:=r3 _ e;simp at this;omega)];exact r1
  try simp -implicitDefEqProofs (disch:=first|exact dsc|fail)[hbx2,w1.in_.data]
  obtain⟨c1,c2,c3⟩:=hclose (S2.put s.next (.cells [v'] false)) v' ρ' (seen++[k]) St.put_self (w1.same (by simp) (fun b hb=>St.put_other (fun e=>by
    subst e;rcases w3 _ hb with e|e
    ·have:=r3 _ e;simp at this;omega
    ·simp at hnx e;omega))) ⟨by simpa using w2.le,fun {b} hb hne=>by
    rw[St.put_other (fun e=>hne (.inl e)),w2.eq hb (fun e=>hne (.inr e))]⟩ (fun b hb=>by simpa using w3 b hb)
  rw[St.put_other (by omega)]at c1
  exact⟨c1,hgo _ _ c2 c3⟩
 ·have hJ':=hJ;obtain⟨v,ρ,g1,g2,g3,g4,g5,g6,rfl⟩:=hJ;subst hrd;refine A74 ((g4 _ (by simp) (by omega)).trans St.alloc_self) ?_
  have hsn:s.next≠s1.next:=by omega
  try simp -implicitDefEqProofs (disch:=first|exact dsc|fail)[g1,hsn]
  have hnS:s1.next+1<=S.next:=by simpa using g5
  refine A0a (hq v _ seen ⟨ρ,g2.same (by simp) (fun b hb=>St.put_other (fun e=>by have:=g3 b hb;simp at this;omega)),⟨by simp;omega,fun {b} hb=>?_⟩,fun b hb=>by have:=g3 b hb;simp at this;omega⟩ hp)
  rw[St.put_other (by omega),g4 b (by simp;omega) (by omega),St.alloc_old (by omega),o1.eq hb]
theorem C6r{b bx:Nat}{l:List (Int×Unit)}{Q:Post}{s:St}(hm:SetR .u64 s b l)(hx:Blk s bx [.map (some b)])(hlen:l.length<16000000)
  (hq:∀v S xs,(intE .u64).New s S v xs->xs.Perm (ks l)->xs.Pairwise (·<·)->Q v S):CC X 97 [.func (.func 132) #[] #[.pointer (some ⟨bx,0,none⟩)]] Q s:=by
 refine G2c rfl ?_
 try simp -implicitDefEqProofs (disch:=first|exact dsc|fail)[]
 refine F64 rfl ?_
 try simp -implicitDefEqProofs (disch:=first|exact dsc|fail)[]
 refine C3n hm hx hlen fun v S xs hn hp=>?_
 try simp -implicitDefEqProofs (disch:=first|exact dsc|fail)[]
 refine A0a ?_;have hxl:xs.length<16000000:=by have:=hp.length_eq;simp[ks]at this;omega
 obtain⟨ρ,h1,h2,h3⟩:=hn
 try simp -implicitDefEqProofs (disch:=first|exact dsc|fail)[]
 refine C6t h1 hxl fun S' ys k1 k2 k3 k4=>?_
 try simp -implicitDefEqProofs (disch:=first|exact dsc|fail)[]
 have hnd:ys.Nodup:=(k3.trans hp).symm.nodup_iff.1 hm.nd;refine A0a (hq v S' ys (Enc.New.turn h2 h3 k1 k2 (fun b hb=>.inl hb)) (k3.trans hp) ?_)
 ·exact(k4.and hnd).imp fun⟨a,b⟩=>by omega
theorem E7x{b:Nat}{Q:Post}{s:St}(hq:∀bx S,Blk S bx [.map (some b)]->Old s S->s.next<=bx->Q (.func (.func 132) #[] #[.pointer (some ⟨bx,0,none⟩)]) S):CC X 98 [.map (some b)] Q s:=by
 refine H07 rfl ?_
 try simp -implicitDefEqProofs (disch:=first|exact dsc|fail)[mkFn,Value.oneCell']
 exact A0a (hq s.next _ ⟨by simp,by simp⟩ (by simp) (Nat.le_refl _))
theorem F1c{b bx y n0:Nat}{l:List (Int×Unit)}{J:List Int->(Nat->Prop)->St->Prop}{D:(Nat->Prop)->St->Prop}{M0:Nat->Prop}{Q:Post}{s:St}(hm:SetR .i64 s b l)(hx:s.heap bx=some (.cells [.map (some b)] false))(hn:s.next=n0)
  (hL:∀seen,B14 n0 (J seen)) (hk:∀seen M S,J seen M S->S.heap b=s.heap b) (hr:∀seen k,k∈ks l->k∉seen->seen.length<l.length->B6u (CC X) y n0 [.int .i64 k] (J seen) (J (seen++[k])) D) (h0:J [] M0 s)
  (hq:∀seen M S,seen.Perm (ks l)->J seen M S->Q (.tuple #[]) S) (hqD:∀M S,D M S->Q (.tuple #[]) S) :
  CC X 120 [.func (.yield y) #[] #[],.pointer (some ⟨bx,0,none⟩)] Q s:=by
 refine F46 rfl ?_
 try simp -implicitDefEqProofs (disch:=first|exact dsc|fail)[hx]
 refine B1n.start hm fun S1 hi hn1 ho=>?_
 try simp -implicitDefEqProofs (disch:=first|exact dsc|fail)[]
 refine D0i fun I hI=>?_;subst hn;have hbn:=hm.lt;have key:∀r vis M S,vis.length+r=l.length->B1n .i64 (fun _:Unit=>.bool true) S s.next b l vis->J (ks vis) M S->¬M s.next->I (.func (.yield y) #[] #[]) (.pointer (some ⟨s.next,0,none⟩)) S:=by
  intro r;induction r with
  | zero=>
   intro vis M S hr0 hit hJ hM;refine hI _ _ _ ?_
   try simp -implicitDefEqProofs (disch:=first|exact dsc|fail)[]
   refine hit.next (fun p hp hpv S2 _ _ _=>?_) (fun hp=>?_)
   ·exfalso;have h1:vis.Nodup/\∀x∈vis,x∈l:=by
     obtain⟨bs,c,js,_,_,_,h4,h5,h6⟩:=hit.at_;have hv:∀x,x∈vis->x∈l:=fun x hx=>by
      have:some x∈js.map fun j=>l[j]?:=by rw[<-h6];exact List.mem_map.2 ⟨x,hx,rfl⟩
      obtain⟨j,_,hj⟩:=List.mem_map.1 this;exact List.mem_of_getElem? hj
     refine⟨?_,hv⟩;have hln:l.Nodup:=List.Pairwise.of_map _ (fun a b hab e=>hab (by rw[e])) hm.nd
     have:(vis.map some).Nodup:=by
      rw[h6];refine List.Pairwise.map _ (fun a b=>?_) (List.Pairwise.and_mem.1 h4);rintro⟨ha,hb,hab⟩ e;have ha:=h5 a ha;have hb:=h5 b hb;rw[List.getElem?_eq_getElem ha,List.getElem?_eq_getElem hb]at e;exact hab (A5o hln (by simpa using e))
     exact List.Pairwise.of_map _ (fun a b hab e=>hab (by rw[e])) this
    have h2:(p::vis).Nodup:=List.nodup_cons.2 ⟨hpv,h1.1⟩;have h3:=A38 h2 (fun x hx=>(List.mem_cons.1 hx).elim (fun e=>e▸hp) (h1.2 x));simp at h3;omega
   ·try simp -implicitDefEqProofs (disch:=first|exact dsc|fail)[]
    exact A0a (hq _ M S (hp.map _) hJ)
  | succ r ih=>
   intro vis M S hr0 hit hJ hM;refine hI _ _ _ ?_
   try simp -implicitDefEqProofs (disch:=first|exact dsc|fail)[]
   refine hit.next (fun p hp hpv S2 h2 h2n h2e=>?_) (fun hp=>?_)
   ·have hJ2:J (ks vis) M S2:=(hL _).st hJ (by omega) (fun x hx=>h2e (fun e=>hx.elim (fun hx=>by omega) (fun hx=>hM (e▸hx))))
    try simp -implicitDefEqProofs (disch:=first|exact dsc|fail)[]
    refine h2.entry ?_
    try simp -implicitDefEqProofs (disch:=first|exact dsc|fail)[]
    have hkn:p.1∉ks vis:=fun hmm=>by
     obtain⟨p',hp',e⟩:=List.mem_map.1 hmm;have:p'=p:=by cases p;cases p';simp at e;rw[e]
     exact hpv (this▸hp')
    refine⟨rfl,rfl,hr (ks vis) p.1 (List.mem_map.2 ⟨p,hp,rfl⟩) hkn (by simp[ks];omega) M S2 _ hJ2 (fun M' S3 hJ3 hK=>?_) (fun M' S3 hD hK=>?_)⟩
    ·try simp -implicitDefEqProofs (disch:=first|exact dsc|fail)[]
     have hn2:s.next<S2.next:=h2.lt
     refine ih (vis++[p]) M' S3 (by simp;omega) ?_ (by simpa[ks]using hJ3) (fun hmm=>?_)
     ·refine h2.old (M:=fun x=>x≠b/\x≠s.next) ⟨hK.le,fun {x} hxl hxm=>?_⟩ (by simp) (by simp)
      by_cases hxb:x=b
      ·subst hxb;rw[hk _ _ _ hJ3,<-hk _ _ _ hJ2]
      ·have:x=s.next:=by
        by_cases e:x=s.next
        ·exact e
        ·exact absurd ⟨hxb,e⟩ hxm
       subst this;exact hK.eq _ (Nat.le_refl _) hxl hM
     ·rcases hK.own _ hmm with e|e
      ·exact hM e
      ·omega
    ·try simp -implicitDefEqProofs (disch:=first|exact dsc|fail)[]
     exact A0a (hqD M' S3 hD)
   ·try simp -implicitDefEqProofs (disch:=first|exact dsc|fail)[]
    exact A0a (hq _ M S (hp.map _) hJ)
 have hM0:¬M0 s.next:=fun h=>by have:=(hL _).lt h0 h;omega
 exact key l.length [] M0 S1 (by simp) hi ((hL []).st h0 (by omega) (fun x hx=>ho.eq (hx.elim id (fun hx=>((hL _).lt h0 hx).2)))) hM0
theorem C4n{b bx:Nat}{l:List (Int×Unit)}{Q:Post}{s:St}(hm:SetR .i64 s b l)(hx:Blk s bx [.map (some b)])(hlen:l.length<16000000)
  (hq:∀v S xs,(intE .i64).New s S v xs->xs.Perm (ks l)->Q v S):CC X 149 [.slice none 0 0,.func (.func 120) #[] #[.pointer (some ⟨bx,0,none⟩)]] Q s:=by
 refine F1n rfl ?_
 try simp -implicitDefEqProofs (disch:=first|exact dsc|fail)[]
 refine B6p fun hY=>?_;generalize hs1:s.alloc (.cells [.slice none 0 0] false)=s1 at *;have o1:Old s s1:=by subst hs1;simp
 have n1:s1.next=s.next+1:=by subst hs1;simp
 have b1:s1.heap s.next=some (.cells [.slice none 0 0] false):=by subst hs1;simp
 clear hs1;generalize hrd:AObj.loop (A6k (.pointer (some ⟨s.next,0,none⟩))) A4j A3i A3a .ready none=rd at *
 have o2:Old s1 (s1.alloc rd):=by simp
 have hml:=(hm.old o1).old o2;have hbl:=(hx.old o1).old o2;have hbn:=hm.lt;have hxn:=hx.lt;have hJC0:JC (intE .i64) (s1.alloc rd) s.next [] (fun _=>False) (s1.alloc rd):=JC.start (by rw[o2.eq (by omega)];exact b1) rfl (by simp;omega)
 try simp -implicitDefEqProofs (disch:=first|exact dsc|fail)[A96]
 refine F1c (n0:=(s1.alloc rd).next) (J:=JC (intE .i64) (s1.alloc rd) s.next) (D:=fun _ _=>False) hml hbl.eq rfl (fun seen=>JC.looper) (fun seen M S h=>?_) (fun seen k hk hks hsl M S Q' hJ hgo _=>?_) hJC0 (fun seen M S hp hJ=>?_) (fun M S h=>h.elim)
 ·obtain⟨v,ρ,g1,g2,g3,g4,g5,g6,rfl⟩:=h;exact g4 b (by simp;omega) (by omega)
 ·obtain⟨hr1,v,ρ,r0,rfl,r1,r2,r3,r4,r5,r6,hclose⟩:=hJ.round (y:=s1.next) (rdy:=rd) (bsy:=.loop (A6k (.pointer (some ⟨s.next,0,none⟩))) A4j A3i A3a .busy none) (by simp) (by omega) (by simp)
  refine hY _ _ _ hr1 ?_;subst hrd
  try simp -implicitDefEqProofs (disch:=first|exact dsc|fail)[hr1,r0]
  refine r2.push (a:=k) A5v A6s (by simp) (by simp) (by omega) (by omega) fun v' S2 ρ' w1 w2 w3=>?_
  have hnx:=r4.le;have hbx2:S2.heap s.next=some (.cells [v] false):=by
   rw[w2.eq (by simp at hnx ⊢;omega) (fun e=>by have:=r3 _ e;simp at this;omega)];exact r1
  try simp -implicitDefEqProofs (disch:=first|exact dsc|fail)[hbx2,w1.in_.data]
  obtain⟨c1,c2,c3⟩:=hclose (S2.put s.next (.cells [v'] false)) v' ρ' (seen++[k]) St.put_self (w1.same (by simp) (fun b hb=>St.put_other (fun e=>by
    subst e;rcases w3 _ hb with e|e
    ·have:=r3 _ e;simp at this;omega
    ·simp at hnx e;omega))) ⟨by simpa using w2.le,fun {b} hb hne=>by
    rw[St.put_other (fun e=>hne (.inl e)),w2.eq hb (fun e=>hne (.inr e))]⟩ (fun b hb=>by simpa using w3 b hb)
  rw[St.put_other (by omega)]at c1
  exact⟨c1,hgo _ _ c2 c3⟩
 ·have hJ':=hJ;obtain⟨v,ρ,g1,g2,g3,g4,g5,g6,rfl⟩:=hJ;subst hrd;refine A74 ((g4 _ (by simp) (by omega)).trans St.alloc_self) ?_
  have hsn:s.next≠s1.next:=by omega
  try simp -implicitDefEqProofs (disch:=first|exact dsc|fail)[g1,hsn]
  have hnS:s1.next+1<=S.next:=by simpa using g5
  refine A0a (hq v _ seen ⟨ρ,g2.same (by simp) (fun b hb=>St.put_other (fun e=>by have:=g3 b hb;simp at this;omega)),⟨by simp;omega,fun {b} hb=>?_⟩,fun b hb=>by have:=g3 b hb;simp at this;omega⟩ hp)
  rw[St.put_other (by omega),g4 b (by simp;omega) (by omega),St.alloc_old (by omega),o1.eq hb]
theorem E3u{b bx:Nat}{l:List (Int×Unit)}{Q:Post}{s:St}(hm:SetR .i64 s b l)(hx:Blk s bx [.map (some b)])(hlen:l.length<16000000)
  (hq:∀v S xs,(intE .i64).New s S v xs->xs.Perm (ks l)->xs.Pairwise (·<·)->Q v S):CC X 81 [.func (.func 120) #[] #[.pointer (some ⟨bx,0,none⟩)]] Q s:=by
 refine H0d rfl ?_
 try simp -implicitDefEqProofs (disch:=first|exact dsc|fail)[]
 refine F1p rfl ?_
 try simp -implicitDefEqProofs (disch:=first|exact dsc|fail)[]
 refine C4n hm hx hlen fun v S xs hn hp=>?_
 try simp -implicitDefEqProofs (disch:=first|exact dsc|fail)[]
 refine A0a ?_;have hxl:xs.length<16000000:=by have:=hp.length_eq;simp[ks]at this;omega
 obtain⟨ρ,h1,h2,h3⟩:=hn
 try simp -implicitDefEqProofs (disch:=first|exact dsc|fail)[]
 refine E6y h1 hxl fun S' ys k1 k2 k3 k4=>?_
 try simp -implicitDefEqProofs (disch:=first|exact dsc|fail)[]
 have hnd:ys.Nodup:=(k3.trans hp).symm.nodup_iff.1 hm.nd;refine A0a (hq v S' ys (Enc.New.turn h2 h3 k1 k2 (fun b hb=>.inl hb)) (k3.trans hp) ?_)
 ·exact(k4.and hnd).imp fun⟨a,b⟩=>by omega
theorem G6w{b:Nat}{Q:Post}{s:St}(hq:∀bx S,Blk S bx [.map (some b)]->Old s S->s.next<=bx->Q (.func (.func 120) #[] #[.pointer (some ⟨bx,0,none⟩)]) S):CC X 82 [.map (some b)] Q s:=by
 refine G35 rfl ?_
 try simp -implicitDefEqProofs (disch:=first|exact dsc|fail)[mkFn,Value.oneCell']
 exact A0a (hq s.next _ ⟨by simp,by simp⟩ (by simp) (Nat.le_refl _))
end Go.Zz
