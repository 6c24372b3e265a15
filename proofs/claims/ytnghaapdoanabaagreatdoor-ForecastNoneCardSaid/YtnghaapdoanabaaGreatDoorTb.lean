import Derived.Test.YtnghaapdoanabaaGreatDoorTa
import Derived.Test.YtnghaapdoanabaaGreatDoorWS
set_option linter.all false
namespace Go.Zz
open Go
structure Looper(n0:Nat)(J:(Nat->Prop)->St->Prop):Prop where
 lt:∀{M S b},J M S->M b->n0<=b/\b<S.next
 st:∀{M S S'},J M S->S.next<=S'.next->(∀b,b<n0\/M b->S'.heap b=S.heap b)->J M S'
structure Kept(n0:Nat)(S S':St)(M M':Nat->Prop):Prop where
 le:S.next<=S'.next
 eq:∀b,n0<=b->b<S.next->¬M b->S'.heap b=S.heap b
 own:∀b,M' b->M b\/S.next<=b
def Round(C:CallT)(y n0:Nat)(args:List Value)(J J' D:(Nat->Prop)->St->Prop):Prop:=
 ∀(M:Nat->Prop) (S:St) (Q:Post),J M S->(∀M' S',J' M' S'->Kept n0 S S' M M'->Q (.bool true) S')->(∀M' S',D M' S'->Kept n0 S S' M M'->Q (.bool false) S')->C (tok y) args Q S
section
variable {α : Type} {w : Nat} {E : Enc α w} {xs ys : List α} {s0 S S' : St} {bx : Nat} {M : Nat → Prop}
def JC(E:Enc α w)(s0:St)(bx:Nat)(xs:List α)(M:Nat->Prop)(S:St):Prop:=
 ∃v ρ,S.heap bx=some (.cells [v] false)/\E.Own S v ρ xs/\(∀b,ρ=some b->s0.next<=b)/\(∀b,b<s0.next->b≠bx->S.heap b=s0.heap b)/\s0.next<=S.next/\bx<s0.next/\M=Row ρ
theorem JC.looper:Looper s0.next (JC E s0 bx xs) where
 lt:=by
  rintro M S b ⟨v,ρ,h1,h2,h3,h4,h5,h6,rfl⟩ hb;have hb:ρ=some b:=hb;subst hb;exact⟨h3 b rfl,h2.lt⟩
 st:=by
  rintro M S S' ⟨v,ρ,h1,h2,h3,h4,h5,h6,rfl⟩ hn hs;exact⟨v,ρ,(hs bx (.inl h6)).trans h1,h2.same hn (fun b hb=>hs b (.inr hb)),h3,fun b hb hne=>(hs b (.inl hb)).trans (h4 b hb hne),by omega,h6,rfl⟩
theorem JC.start{v:Value}(hx:S.heap bx=some (.cells [v] false))(hv:v=.slice none 0 0)(hb:bx<S.next):JC E S bx [] (fun _=>False) S:=by
 subst hv;refine⟨_,none,hx,.nil,fun b h=>?_,fun _ _ _=>rfl,Nat.le_refl _,hb,?_⟩
 ·cases h
 ·funext b;simp[Row]
theorem JC.round{y:Nat}{rdy bsy:AObj}(h:JC E s0 bx xs M S)(hy:y<s0.next)(hyb:y≠bx)(hr:s0.heap y=some rdy) :
  S.heap y=some rdy/\∃v ρ,S.heap bx=some (.cells [v] false)/\M=Row ρ/\(S.put y bsy).heap bx=some (.cells [v] false)/\E.Own (S.put y bsy) v ρ xs/\(∀b,ρ=some b->s0.next<=b)/\Chg s0 (S.put y bsy) (fun b=>b=bx\/b=y)/\(S.put y bsy).heap y=some bsy/\bx<s0.next/\
  ∀(S2:St) v' ρ' ys,S2.heap bx=some (.cells [v'] false)->E.Own S2 v' ρ' ys->Chg (S.put y bsy) S2 (fun b=>b=bx\/Row ρ b)->(∀b,ρ'=some b->ρ=some b\/S.next<=b)->S2.heap y=some bsy/\JC E s0 bx ys (Row ρ') (S2.put y rdy)/\Kept s0.next S (S2.put y rdy) M (Row ρ'):=by
 obtain⟨v,ρ,h1,h2,h3,h4,h5,h6,rfl⟩:=h;have hρy:∀b,ρ=some b->b≠y:=fun b hb=>by have:=h3 b hb;omega
 refine⟨(h4 y hy hyb).trans hr,v,ρ,h1,rfl,(St.put_other hyb.symm).trans h1,h2.same (by simp) (fun b hb=>St.put_other (hρy b hb)),h3,⟨by simpa using h5,fun {b} hb hm=>?_⟩,St.put_self,h6,?_⟩
 ·rw[St.put_other (fun e=>hm (.inr e)),h4 b hb (fun e=>hm (.inl e))]
 ·intro S2 v' ρ' ys g1 g2 g3 g4;have hρ'y:∀b,ρ'=some b->b≠y:=fun b hb=>by
   rcases g4 b hb with e|e
   ·exact hρy b e
   ·omega
  have hle:=g3.le;simp only[St.put_next]at hle;refine⟨(g3.eq (b:=y) (by simp;omega) (fun hm=>hm.elim hyb (fun e=>hρy y e rfl))).trans St.put_self,⟨v',ρ',(St.put_other hyb.symm).trans g1,g2.same (by simp) (fun b hb=>St.put_other (hρ'y b hb)),fun b hb=>?_,fun b hb hne=>?_,by simp;omega,h6,rfl⟩,⟨by simpa using hle,fun b hb hlt hm=>?_,g4⟩⟩
  ·rcases g4 b hb with e|e
   ·exact h3 b e
   ·omega
  ·by_cases hby:b=y
   ·subst hby;rw[St.put_self];exact hr.symm
   ·rw[St.put_other hby,g3.eq (by simp;omega) (fun hm=>hm.elim hne (fun e=>by have:=h3 b e;omega)),St.put_other hby]
    exact h4 b hb hne
  ·have hby:b≠y:=by omega
   rw[St.put_other hby,g3.eq (by simpa using hlt) (fun hmm=>hmm.elim (fun e=>by omega) hm),St.put_other hby]
end
theorem rfK_normal{b:Nat}{L:List Value}{ps:Array Tmp}{aC bd:Code}{K:CPost}{A:Fr}{s:St}(h:s.heap b=some (.loop L ps aC bd .ready none))(hk:K .normal A (s.put b (.loop L ps aC bd .exhausted none))):rfK b K A s:=by
 unfold rfK;rw[h];exact⟨by simp,hk⟩
theorem rfK_ret{b:Nat}{L:List Value}{ps:Array Tmp}{aC bd:Code}{K:CPost}{A:Fr}{s:St}(h:s.heap b=some (.loop L ps aC bd .done (some .ret)))(hk:K .ret A (s.put b (.loop L ps aC bd .exhausted (some .ret)))):rfK b K A s:=by
 unfold rfK;rw[h];exact⟨by simp,hk⟩
theorem IterR.entry{α:Type}{q:IntKind}{f:α->Value}{s:St}{it b:Nat}{l vis:List (Int×α)}{p:Int×α}{k:Post}(h:IterR q f s it b l (vis++[p]))(hk:k (.tuple #[.int q p.1,f p.2]) s):entryW (.pointer (some ⟨it,0,none⟩)) k s:=by
 obtain⟨bs,c,js,h1,h2,h3,h4,h5,h6⟩:=h.at_;have hne:js≠[]:=fun e=>by subst e;simp at h6
 obtain⟨js',j,rfl⟩:∃js' j,js=js'++[j]:=⟨js.dropLast,js.getLast hne,(List.dropLast_concat_getLast hne).symm⟩;have h7:l[j]?=some p:=by
  rw[List.map_append,List.map_append]at h6;have:=List.append_inj_right' h6 (by simp)
  simpa using this.symm
 obtain⟨bs',c',g1,g2,_⟩:=h.map.eq;rw[h1]at g1;cases g1;have hj:=h5 j (by simp)
 have hjb:j<bs.length:=by omega
 simp only[entryW,h3,h1];refine⟨trivial,trivial,bs[j],j,(.int q p.1,f p.2),?_,List.getElem?_eq_getElem hjb,?_,hk⟩
 ·simp[List.getD_eq_getElem?_getD,hjb]
 ·simp[kv,h7]
theorem nodup_len{α:Type}:∀{l1 l2:List α},l1.Nodup->(∀x∈l1,x∈l2)->l1.length<=l2.length
 | [],_,_,_=>Nat.zero_le _
 | a::t,l2,h,hs=>by
  obtain⟨u,r,rfl⟩:=List.append_of_mem (hs a (by simp))
  rw[List.nodup_cons]at h;have:=nodup_len (l1:=t) (l2:=u++r) h.2 (fun x hx=>by
   have:=hs x (by simp[hx])
   simp only[List.mem_append,List.mem_cons]at this ⊢;rcases this with e|e|e
   ·exact .inl e
   ·exact absurd (e▸hx) h.1
   ·exact .inr e)
  simp at this ⊢;omega
end Go.Zz
set_option maxRecDepth 20000
set_option linter.all false
namespace Go.Zz
open Go
variable {X : Y0}
def dd:List Int->List Int
 | []=>[]
 | [a]=>[a]
 | a::b::r=>if a=b then dd (b::r)else a::dd (b::r)
theorem dd_snoc(a b:Int):∀l:List Int,dd (l++[a,b])=dd (l++[a])++if a=b then []else [b]
 | []=>by by_cases h:a=b<;>simp[dd,h]
 | [x]=>by
  simp only[List.cons_append,List.nil_append,dd];by_cases h:a=b<;>by_cases g:x=a<;>simp[h,g]
 | x::y::l=>by
  have:=dd_snoc a b (y::l);simp only[List.cons_append]at this;simp only[List.cons_append,dd];split
  ·exact this
  ·rw[this,List.cons_append]
theorem dd_mem{x:Int}:∀{l:List Int},x∈dd l↔x∈l
 | []=>by simp[dd]
 | [a]=>by simp[dd]
 | a::b::r=>by
  have:=dd_mem (x:=x) (l:=b::r);simp only[dd];split
  ·rename_i h;subst h;rw[this];simp
  ·rw[List.mem_cons,this];simp
theorem dd_sorted:∀{l:List Int},l.Pairwise (·<=·)->(dd l).Pairwise (·<·)
 | [],_=>by simp[dd]
 | [a],_=>by simp[dd]
 | a::b::r,h=>by
  rw[List.pairwise_cons]at h;have:=dd_sorted h.2;simp only[dd];split
  ·exact this
  ·rename_i hab;rw[List.pairwise_cons];refine⟨fun x hx=>?_,this⟩;rw[dd_mem]at hx;have h1:=h.1 b (by simp)
   have h2:b<=x:=by
    rcases List.mem_cons.1 hx with e|e
    ·omega
    ·exact(List.pairwise_cons.1 h.2).1 x e
   omega
theorem dd_length(l:List Int):(dd l).length<=l.length:=by
 induction l using dd.induct with
 | case1=>simp[dd]
 | case2=>simp[dd]
 | case3 a r ih=>simp only[dd,if_true];simp at ih ⊢;omega
 | case4 a b r h ih=>simp only[dd,if_neg h];simp at ih ⊢;omega
theorem dd_take{xs:List Int}{n:Nat}(h:n+1<xs.length):dd (xs.take (n+2))=dd (xs.take (n+1))++if gt xs n=gt xs (n+1)then []else [gt xs (n+1)]:=by
 have h1:xs.take (n+2)=xs.take n++[gt xs n,gt xs (n+1)]:=by
  rw[<-List.take_append_getElem h,<-List.take_append_getElem (Nat.lt_of_succ_lt h),gt_eq,gt_eq];simp
 have h2:xs.take (n+1)=xs.take n++[gt xs n]:=by
  rw[<-List.take_append_getElem (Nat.lt_of_succ_lt h),gt_eq]
 rw[h1,h2,dd_snoc]
theorem gt_drop{xs:List Int}{n k:Nat}:gt (xs.drop n) k=gt xs (n+k):=by simp[gt,List.getElem?_drop]
theorem gt_take{xs:List Int}{n k:Nat}(h:k<n):gt (xs.take n) k=gt xs k:=by simp[gt,List.getElem?_take,h]
theorem gt_of_drop{xs ys:List Int}{n k:Nat}(h:ys.drop n=xs.drop n)(hk:n<=k):gt ys k=gt xs k:=by
 have:=gt_drop (xs:=ys) (n:=n) (k:=k-n);rw[h,gt_drop,show n+(k-n)=k by omega]at this
 exact this.symm
theorem Compact_u{v:Value}{ρ:Option Nat}{xs:List Int}{Q:Post}{s:St}(hv:(intE .u64).Own s v ρ xs)(hlen:xs.length<1000000000)
  (hq:∀v' S,(intE .u64).Own S v' ρ (dd xs)->Chg s S (Row ρ)->Q v' S):CC X 35 [v] Q s:=by
 refine f35xin rfl ?_;have hI:=hv.in_;have hlv:=fun S=>hI.len (P:=P) (s':=S) y_P_underlying_34;by_cases h2:xs.length<2
 ·have h2':(xs.length:Int)<2:=by omega
  try simp -implicitDefEqProofs (disch:=first|exact dsc|fail)[hlv,h2']
  refine hq v s ?_ ⟨Nat.le_refl _,fun _ _=>rfl⟩;have:dd xs=xs:=by
   match xs,h2 with
   | [],_=>rfl
   | [a],_=>rfl
  rwa [this]
 have h2':¬(xs.length:Int)<2:=by omega
 try simp -implicitDefEqProofs (disch:=first|exact dsc|fail)[hlv,h2']
 refine f35xloop0 fun I hI0=>?_;have key:∀k,k<=xs.length->1<=k->dd (xs.take k)=xs.take k->∀u,I v u (.int .i64 k) s:=by
  refine up fun k hk ih h1 hd u=>hI0 _ _ _ _ ?_;by_cases hlt:k<xs.length
  ·have hk1:(k:Int)-1=(k-1:Nat):=by omega
   have hdt:=dd_take (xs:=xs) (n:=k-1) (by omega)
   rw[show k-1+2=k+1 by omega,show k-1+1=k by omega]at hdt
   by_cases he:gt xs k=gt xs (k-1)
   ·try simp -implicitDefEqProofs (disch:=first|exact dsc|fail)[hlt,hlv,hk1,hI.idx,hI.get,he,hI.part y_P_underlying_34 y_esz_34]
    refine f35xloop1 fun I2 hI2=>?_;have inner:∀j,j<=xs.length-k->1<=j->∀(m:Nat) S ys,ys.length=xs.length->m<k+j->dd (xs.take (k+j))=ys.take m->ys.drop (k+j-1)=xs.drop (k+j-1)->(intE .u64).Own S v ρ ys->Chg s S (Row ρ)->
      I2 v (.int .i64 m) (partS 1 v k xs.length) (.int .i64 j) S:=by
     refine up fun j hj ihj h1j m S ys hl hm hdd hdr hS hc=>hI2 _ _ _ _ _ ?_;have hSI:=hS.in_;have hP:=hSI.part_in (lo:=k) (hi:=xs.length) (by omega) (by omega)
     have hPl:((ys.drop k).take (xs.length-k)).length=xs.length-k:=by simp;omega
     have hpl:=hP.len (P:=P) (s':=S) y_P_underlying_34;rw[hPl]at hpl;by_cases hjl:j<xs.length-k
     ·have hj1:(j:Int)-1=(j-1:Nat):=by omega
      have hjl':(j:Int)<(xs.length-k:Nat):=by omega
      have g1:gt ((ys.drop k).take (xs.length-k)) j=gt xs (k+j):=by rw[gt_take hjl,gt_drop];exact gt_of_drop hdr (by omega)
      have g2:gt ((ys.drop k).take (xs.length-k)) (j-1)=gt xs (k+j-1):=by rw[gt_take (by omega),gt_drop,show k+(j-1)=k+j-1 by omega];exact gt_of_drop hdr (Nat.le_refl _)
      have i1:j<((ys.drop k).take (xs.length-k)).length:=by omega
      have i2:j-1<((ys.drop k).take (xs.length-k)).length:=by omega
      have l1:=hP.get (n:=1) i1;have l2:=hP.get (n:=1) i2;rw[g1]at l1;rw[g2]at l2;have a1:=hP.idx (q:=.i64) (ag:=false) (j:=(j:Int)) (by omega) (by omega)
      have a2:=hP.idx (q:=.i64) (ag:=false) (j:=((j-1:Nat):Int)) (by omega) (by omega)
      have hdt:=dd_take (xs:=xs) (n:=k+j-1) (by omega)
      rw[show k+j-1+2=k+j+1 by omega,show k+j-1+1=k+j by omega,hdd]at hdt
      have hml:(ys.take m).length=m:=by simp;omega
      by_cases hne:gt xs (k+j)=gt xs (k+j-1)
      ·try simp -implicitDefEqProofs (disch:=first|exact dsc|fail)[hpl,hjl',hj1,a1,a2,l1,l2,hne]
       have:=ihj hjl (by omega) m S ys hl (by omega) (by rw[<-Nat.add_assoc,hdt,if_pos hne.symm];simp) (by
        rw[show k+(j+1)-1=k+j-1+1 by omega,<-List.drop_drop,<-List.drop_drop,hdr]) hS hc
       simpa using this
      ·have im:m<ys.length:=by omega
       have a3:=hSI.idx (q:=.i64) (ag:=false) (j:=(m:Int)) (by omega) (by omega)
       try simp -implicitDefEqProofs (disch:=first|exact dsc|fail)[hpl,hjl',hj1,a1,a2,a3,l1,l2,hne]
       refine hS.store1 (a:=gt xs (k+j)) im rfl rfl fun S' w1 w2 w3=>?_
       try simp -implicitDefEqProofs (disch:=first|exact dsc|fail)[]
       have:=ihj hjl (by omega) (m+1) S' (ys.set m (gt xs (k+j))) (by simpa using hl) (by omega) (by rw[<-Nat.add_assoc,hdt,if_neg (fun e=>hne e.symm),take_set_succ im]) (by
        rw[List.drop_set_of_lt (by omega),show k+(j+1)-1=k+j-1+1 by omega,<-List.drop_drop,<-List.drop_drop,hdr]) w1 (hc.trans w2 (fun b hb=>.inl hb))
       simpa using this
     ·have hjx:k+j=xs.length:=by omega
      have hjl':¬(j:Int)<(xs.length-k:Nat):=by omega
      rw[hjx,List.take_length]at hdd;have hml:(ys.take m).length=m:=by simp;omega
      have hpt:=hSI.part (P:=P) (lo:=some (.int .i64 (m:Int))) (hi:=none) y_P_underlying_34 y_esz_34 (by simp;omega)
      try simp -implicitDefEqProofs (disch:=first|exact dsc|fail)[hpl,hjl',hpt]
      refine hS.clear (z:=0) (by omega) y_tSlice_34 (by decide) fun S' w1 w2 w3=>?_
      have hpt2:=w1.in_.part (P:=P) (hi:=some (.int .i64 (m:Int))) (lo:=none) y_P_underlying_34 y_esz_34 (by simp;omega)
      try simp -implicitDefEqProofs (disch:=first|exact dsc|fail)[hpt2]
      refine kEnd_keep (hq _ S' ?_ (hc.trans w2 (fun b hb=>.inl hb)));have:=w1.take (j:=m) (by simp;omega)
      rw[List.take_append_of_le_length (by omega),List.take_of_length_le (by omega)]at this
      rw[hdd];exact this
    have:=inner 1 (by omega) (by omega) k s xs rfl (by omega) (by rw[hdt,if_pos he.symm,hd];simp) rfl hv ⟨Nat.le_refl _,fun _ _=>rfl⟩
    simpa using this
   ·try simp -implicitDefEqProofs (disch:=first|exact dsc|fail)[hlt,hlv,hk1,hI.idx,hI.get,he]
    have:=ih hlt (by omega) (by rw[hdt,if_neg (fun e=>he e.symm),hd,<-gt_eq hlt,List.take_append_getElem]) u
    simpa using this
  ·try simp -implicitDefEqProofs (disch:=first|exact dsc|fail)[hlt,hlv]
   have:k=xs.length:=by omega
   subst this;rw[List.take_length]at hd;exact hq v s (by rwa [hd]) ⟨Nat.le_refl _,fun _ _=>rfl⟩
 have:=key 1 (by omega) (Nat.le_refl _) (by
  match xs,h2 with
  | a::r,_=>rfl) (.slice none 0 0)
 simpa using this
theorem Compact_i{v:Value}{ρ:Option Nat}{xs:List Int}{Q:Post}{s:St}(hv:(intE .i64).Own s v ρ xs)(hlen:xs.length<1000000000)
  (hq:∀v' S,(intE .i64).Own S v' ρ (dd xs)->Chg s S (Row ρ)->Q v' S):CC X 118 [v] Q s:=by
 refine f118xin rfl ?_;have hI:=hv.in_;have hlv:=fun S=>hI.len (P:=P) (s':=S) y_P_underlying_28;by_cases h2:xs.length<2
 ·have h2':(xs.length:Int)<2:=by omega
  try simp -implicitDefEqProofs (disch:=first|exact dsc|fail)[hlv,h2']
  refine hq v s ?_ ⟨Nat.le_refl _,fun _ _=>rfl⟩;have:dd xs=xs:=by
   match xs,h2 with
   | [],_=>rfl
   | [a],_=>rfl
  rwa [this]
 have h2':¬(xs.length:Int)<2:=by omega
 try simp -implicitDefEqProofs (disch:=first|exact dsc|fail)[hlv,h2']
 refine f118xloop0 fun I hI0=>?_;have key:∀k,k<=xs.length->1<=k->dd (xs.take k)=xs.take k->∀u,I v u (.int .i64 k) s:=by
  refine up fun k hk ih h1 hd u=>hI0 _ _ _ _ ?_;by_cases hlt:k<xs.length
  ·have hk1:(k:Int)-1=(k-1:Nat):=by omega
   have hdt:=dd_take (xs:=xs) (n:=k-1) (by omega)
   rw[show k-1+2=k+1 by omega,show k-1+1=k by omega]at hdt
   by_cases he:gt xs k=gt xs (k-1)
   ·try simp -implicitDefEqProofs (disch:=first|exact dsc|fail)[hlt,hlv,hk1,hI.idx,hI.get,he,hI.part y_P_underlying_28 y_esz_28]
    refine f118xloop1 fun I2 hI2=>?_;have inner:∀j,j<=xs.length-k->1<=j->∀(m:Nat) S ys,ys.length=xs.length->m<k+j->dd (xs.take (k+j))=ys.take m->ys.drop (k+j-1)=xs.drop (k+j-1)->(intE .i64).Own S v ρ ys->Chg s S (Row ρ)->
      I2 v (.int .i64 m) (partS 1 v k xs.length) (.int .i64 j) S:=by
     refine up fun j hj ihj h1j m S ys hl hm hdd hdr hS hc=>hI2 _ _ _ _ _ ?_;have hSI:=hS.in_;have hP:=hSI.part_in (lo:=k) (hi:=xs.length) (by omega) (by omega)
     have hPl:((ys.drop k).take (xs.length-k)).length=xs.length-k:=by simp;omega
     have hpl:=hP.len (P:=P) (s':=S) y_P_underlying_28;rw[hPl]at hpl;by_cases hjl:j<xs.length-k
     ·have hj1:(j:Int)-1=(j-1:Nat):=by omega
      have hjl':(j:Int)<(xs.length-k:Nat):=by omega
      have g1:gt ((ys.drop k).take (xs.length-k)) j=gt xs (k+j):=by rw[gt_take hjl,gt_drop];exact gt_of_drop hdr (by omega)
      have g2:gt ((ys.drop k).take (xs.length-k)) (j-1)=gt xs (k+j-1):=by rw[gt_take (by omega),gt_drop,show k+(j-1)=k+j-1 by omega];exact gt_of_drop hdr (Nat.le_refl _)
      have i1:j<((ys.drop k).take (xs.length-k)).length:=by omega
      have i2:j-1<((ys.drop k).take (xs.length-k)).length:=by omega
      have l1:=hP.get (n:=1) i1;have l2:=hP.get (n:=1) i2;rw[g1]at l1;rw[g2]at l2;have a1:=hP.idx (q:=.i64) (ag:=false) (j:=(j:Int)) (by omega) (by omega)
      have a2:=hP.idx (q:=.i64) (ag:=false) (j:=((j-1:Nat):Int)) (by omega) (by omega)
      have hdt:=dd_take (xs:=xs) (n:=k+j-1) (by omega)
      rw[show k+j-1+2=k+j+1 by omega,show k+j-1+1=k+j by omega,hdd]at hdt
      have hml:(ys.take m).length=m:=by simp;omega
      by_cases hne:gt xs (k+j)=gt xs (k+j-1)
      ·try simp -implicitDefEqProofs (disch:=first|exact dsc|fail)[hpl,hjl',hj1,a1,a2,l1,l2,hne]
       have:=ihj hjl (by omega) m S ys hl (by omega) (by rw[<-Nat.add_assoc,hdt,if_pos hne.symm];simp) (by
        rw[show k+(j+1)-1=k+j-1+1 by omega,<-List.drop_drop,<-List.drop_drop,hdr]) hS hc
       simpa using this
      ·have im:m<ys.length:=by omega
       have a3:=hSI.idx (q:=.i64) (ag:=false) (j:=(m:Int)) (by omega) (by omega)
       try simp -implicitDefEqProofs (disch:=first|exact dsc|fail)[hpl,hjl',hj1,a1,a2,a3,l1,l2,hne]
       refine hS.store1 (a:=gt xs (k+j)) im rfl rfl fun S' w1 w2 w3=>?_
       try simp -implicitDefEqProofs (disch:=first|exact dsc|fail)[]
       have:=ihj hjl (by omega) (m+1) S' (ys.set m (gt xs (k+j))) (by simpa using hl) (by omega) (by rw[<-Nat.add_assoc,hdt,if_neg (fun e=>hne e.symm),take_set_succ im]) (by
        rw[List.drop_set_of_lt (by omega),show k+(j+1)-1=k+j-1+1 by omega,<-List.drop_drop,<-List.drop_drop,hdr]) w1 (hc.trans w2 (fun b hb=>.inl hb))
       simpa using this
     ·have hjx:k+j=xs.length:=by omega
      have hjl':¬(j:Int)<(xs.length-k:Nat):=by omega
      rw[hjx,List.take_length]at hdd;have hml:(ys.take m).length=m:=by simp;omega
      have hpt:=hSI.part (P:=P) (lo:=some (.int .i64 (m:Int))) (hi:=none) y_P_underlying_28 y_esz_28 (by simp;omega)
      try simp -implicitDefEqProofs (disch:=first|exact dsc|fail)[hpl,hjl',hpt]
      refine hS.clear (z:=0) (by omega) y_tSlice_28 (by decide) fun S' w1 w2 w3=>?_
      have hpt2:=w1.in_.part (P:=P) (hi:=some (.int .i64 (m:Int))) (lo:=none) y_P_underlying_28 y_esz_28 (by simp;omega)
      try simp -implicitDefEqProofs (disch:=first|exact dsc|fail)[hpt2]
      refine kEnd_keep (hq _ S' ?_ (hc.trans w2 (fun b hb=>.inl hb)));have:=w1.take (j:=m) (by simp;omega)
      rw[List.take_append_of_le_length (by omega),List.take_of_length_le (by omega)]at this
      rw[hdd];exact this
    have:=inner 1 (by omega) (by omega) k s xs rfl (by omega) (by rw[hdt,if_pos he.symm,hd];simp) rfl hv ⟨Nat.le_refl _,fun _ _=>rfl⟩
    simpa using this
   ·try simp -implicitDefEqProofs (disch:=first|exact dsc|fail)[hlt,hlv,hk1,hI.idx,hI.get,he]
    have:=ih hlt (by omega) (by rw[hdt,if_neg (fun e=>he e.symm),hd,<-gt_eq hlt,List.take_append_getElem]) u
    simpa using this
  ·try simp -implicitDefEqProofs (disch:=first|exact dsc|fail)[hlt,hlv]
   have:k=xs.length:=by omega
   subst this;rw[List.take_length]at hd;exact hq v s (by rwa [hd]) ⟨Nat.le_refl _,fun _ _=>rfl⟩
 have:=key 1 (by omega) (Nat.le_refl _) (by
  match xs,h2 with
  | a::r,_=>rfl) (.slice none 0 0)
 simpa using this
abbrev SetR(q:IntKind)(s:St)(b:Nat)(l:List (Int×Unit)):Prop:=MapR q (fun _:Unit=>.bool true) s b l
def ks(l:List (Int×Unit)):List Int:=l.map (·.1)
theorem ks_mput{l:List (Int×Unit)}{n m:Int}:m∈ks (mput l n ())↔m=n\/m∈ks l:=by
 unfold ks;rw[mput_keys];split
 ·rename_i h;exact⟨.inr,fun g=>g.elim (fun e=>e▸h) id⟩
 ·simp[or_comm]
theorem Keys1xu{b bx y n0:Nat}{l:List (Int×Unit)}{J:List Int->(Nat->Prop)->St->Prop}{D:(Nat->Prop)->St->Prop}{M0:Nat->Prop}{Q:Post}{s:St}(hm:SetR .u64 s b l)(hx:s.heap bx=some (.cells [.map (some b)] false))(hn:s.next=n0)
  (hL:∀seen,Looper n0 (J seen)) (hk:∀seen M S,J seen M S->S.heap b=s.heap b) (hr:∀seen k,k∈ks l->k∉seen->seen.length<l.length->Round (CC X) y n0 [.int .u64 k] (J seen) (J (seen++[k])) D) (h0:J [] M0 s)
  (hq:∀seen M S,seen.Perm (ks l)->J seen M S->Q (.tuple #[]) S) (hqD:∀M S,D M S->Q (.tuple #[]) S) :
  CC X 132 [.func (.yield y) #[] #[],.pointer (some ⟨bx,0,none⟩)] Q s:=by
 refine f132xin rfl ?_
 try simp -implicitDefEqProofs (disch:=first|exact dsc|fail)[hx]
 refine IterR.start hm fun S1 hi hn1 ho=>?_
 try simp -implicitDefEqProofs (disch:=first|exact dsc|fail)[]
 refine f132xloop0 fun I hI=>?_;subst hn;have hbn:=hm.lt;have key:∀r vis M S,vis.length+r=l.length->IterR .u64 (fun _:Unit=>.bool true) S s.next b l vis->J (ks vis) M S->¬M s.next->I (.func (.yield y) #[] #[]) (.pointer (some ⟨s.next,0,none⟩)) S:=by
  intro r;induction r with
  | zero=>
   intro vis M S hr0 hit hJ hM;refine hI _ _ _ ?_
   try simp -implicitDefEqProofs (disch:=first|exact dsc|fail)[]
   refine hit.next (fun p hp hpv S2 _ _ _=>?_) (fun hp=>?_)
   ·exfalso;have h1:vis.Nodup/\∀x∈vis,x∈l:=by
     obtain⟨bs,c,js,_,_,_,h4,h5,h6⟩:=hit.at_;have hv:∀x,x∈vis->x∈l:=fun x hx=>by
      have:some x∈js.map fun j=>l[j]?:=by rw[<-h6];exact List.mem_map.2 ⟨x,hx,rfl⟩
      obtain⟨j,_,hj⟩:=List.mem_map.1 this;exact List.mem_of_getElem? hj
     refine⟨?_,hv⟩;have hln:l.Nodup:=List.Pairwise.of_map _ (fun a b hab e=>hab (by rw[e])) hm.nd
     have:(vis.map some).Nodup:=by
      rw[h6];refine List.Pairwise.map _ (fun a b=>?_) (List.Pairwise.and_mem.1 h4);rintro⟨ha,hb,hab⟩ e;have ha:=h5 a ha;have hb:=h5 b hb;rw[List.getElem?_eq_getElem ha,List.getElem?_eq_getElem hb]at e;exact hab (nodup_inj hln (by simpa using e))
     exact List.Pairwise.of_map _ (fun a b hab e=>hab (by rw[e])) this
    have h2:(p::vis).Nodup:=List.nodup_cons.2 ⟨hpv,h1.1⟩;have h3:=nodup_len h2 (fun x hx=>(List.mem_cons.1 hx).elim (fun e=>e▸hp) (h1.2 x));simp at h3;omega
   ·try simp -implicitDefEqProofs (disch:=first|exact dsc|fail)[]
    exact kEnd_keep (hq _ M S (hp.map _) hJ)
  | succ r ih=>
   intro vis M S hr0 hit hJ hM;refine hI _ _ _ ?_
   try simp -implicitDefEqProofs (disch:=first|exact dsc|fail)[]
   refine hit.next (fun p hp hpv S2 h2 h2n h2e=>?_) (fun hp=>?_)
   ·have hJ2:J (ks vis) M S2:=(hL _).st hJ (by omega) (fun x hx=>h2e (fun e=>hx.elim (fun hx=>by omega) (fun hx=>hM (e▸hx))))
    try simp -implicitDefEqProofs (disch:=first|exact dsc|fail)[]
    refine h2.entry ?_
    try simp -implicitDefEqProofs (disch:=first|exact dsc|fail)[]
    have hkn:p.1∉ks vis:=fun hmm=>by
     obtain⟨p',hp',e⟩:=List.mem_map.1 hmm;have:p'=p:=by cases p;cases p';simp at e;rw[e]
     exact hpv (this▸hp')
    refine⟨rfl,rfl,hr (ks vis) p.1 (List.mem_map.2 ⟨p,hp,rfl⟩) hkn (by simp[ks];omega) M S2 _ hJ2 (fun M' S3 hJ3 hK=>?_) (fun M' S3 hD hK=>?_)⟩
    ·try simp -implicitDefEqProofs (disch:=first|exact dsc|fail)[]
     have hn2:s.next<S2.next:=h2.lt
     refine ih (vis++[p]) M' S3 (by simp;omega) ?_ (by simpa[ks]using hJ3) (fun hmm=>?_)
     ·refine h2.old (M:=fun x=>x≠b/\x≠s.next) ⟨hK.le,fun {x} hxl hxm=>?_⟩ (by simp) (by simp)
      by_cases hxb:x=b
      ·subst hxb;rw[hk _ _ _ hJ3,<-hk _ _ _ hJ2]
      ·have:x=s.next:=by
        by_cases e:x=s.next
        ·exact e
        ·exact absurd ⟨hxb,e⟩ hxm
       subst this;exact hK.eq _ (Nat.le_refl _) hxl hM
     ·rcases hK.own _ hmm with e|e
      ·exact hM e
      ·omega
    ·try simp -implicitDefEqProofs (disch:=first|exact dsc|fail)[]
     exact kEnd_keep (hqD M' S3 hD)
   ·try simp -implicitDefEqProofs (disch:=first|exact dsc|fail)[]
    exact kEnd_keep (hq _ M S (hp.map _) hJ)
 have hM0:¬M0 s.next:=fun h=>by have:=(hL _).lt h0 h;omega
 exact key l.length [] M0 S1 (by simp) hi ((hL []).st h0 (by omega) (fun x hx=>ho.eq (hx.elim id (fun hx=>((hL _).lt h0 hx).2)))) hM0
theorem AppendSeq_u{b bx:Nat}{l:List (Int×Unit)}{Q:Post}{s:St}(hm:SetR .u64 s b l)(hx:Blk s bx [.map (some b)])(hlen:l.length<16000000)
  (hq:∀v S xs,(intE .u64).New s S v xs->xs.Perm (ks l)->Q v S):CC X 157 [.slice none 0 0,.func (.func 132) #[] #[.pointer (some ⟨bx,0,none⟩)]] Q s:=by
 refine f157xin rfl ?_
 try simp -implicitDefEqProofs (disch:=first|exact dsc|fail)[]
 refine f157xrf0xrange fun hY=>?_;generalize hs1:s.alloc (.cells [.slice none 0 0] false)=s1 at *;have o1:Old s s1:=by subst hs1;simp
 have n1:s1.next=s.next+1:=by subst hs1;simp
 have b1:s1.heap s.next=some (.cells [.slice none 0 0] false):=by subst hs1;simp
 clear hs1;generalize hrd:AObj.loop (f157xrf0xL (.pointer (some ⟨s.next,0,none⟩))) f157xrf0xps f157xrf0xas f157xrf0xbd .ready none=rd at *
 have o2:Old s1 (s1.alloc rd):=by simp
 have hml:=(hm.old o1).old o2;have hbl:=(hx.old o1).old o2;have hbn:=hm.lt;have hxn:=hx.lt;have hJC0:JC (intE .u64) (s1.alloc rd) s.next [] (fun _=>False) (s1.alloc rd):=JC.start (by rw[o2.eq (by omega)];exact b1) rfl (by simp;omega)
 try simp -implicitDefEqProofs (disch:=first|exact dsc|fail)[rfCall]
 refine Keys1xu (n0:=(s1.alloc rd).next) (J:=JC (intE .u64) (s1.alloc rd) s.next) (D:=fun _ _=>False) hml hbl.eq rfl (fun seen=>JC.looper) (fun seen M S h=>?_) (fun seen k hk hks hsl M S Q' hJ hgo _=>?_) hJC0 (fun seen M S hp hJ=>?_) (fun M S h=>h.elim)
 ·obtain⟨v,ρ,g1,g2,g3,g4,g5,g6,rfl⟩:=h;exact g4 b (by simp;omega) (by omega)
 ·obtain⟨hr1,v,ρ,r0,rfl,r1,r2,r3,r4,r5,r6,hclose⟩:=hJ.round (y:=s1.next) (rdy:=rd) (bsy:=.loop (f157xrf0xL (.pointer (some ⟨s.next,0,none⟩))) f157xrf0xps f157xrf0xas f157xrf0xbd .busy none) (by simp) (by omega) (by simp)
  refine hY _ _ _ hr1 ?_;subst hrd
  try simp -implicitDefEqProofs (disch:=first|exact dsc|fail)[hr1,r0]
  refine r2.push (a:=k) y_tSlice_34 y_tZeros_34 (by simp) (by simp) (by omega) (by omega) fun v' S2 ρ' w1 w2 w3=>?_
  have hnx:=r4.le;have hbx2:S2.heap s.next=some (.cells [v] false):=by
   rw[w2.eq (by simp at hnx ⊢;omega) (fun e=>by have:=r3 _ e;simp at this;omega)];exact r1
  try simp -implicitDefEqProofs (disch:=first|exact dsc|fail)[hbx2,w1.in_.data]
  obtain⟨c1,c2,c3⟩:=hclose (S2.put s.next (.cells [v'] false)) v' ρ' (seen++[k]) St.put_self (w1.same (by simp) (fun b hb=>St.put_other (fun e=>by
    subst e;rcases w3 _ hb with e|e
    ·have:=r3 _ e;simp at this;omega
    ·simp at hnx e;omega))) ⟨by simpa using w2.le,fun {b} hb hne=>by
    rw[St.put_other (fun e=>hne (.inl e)),w2.eq hb (fun e=>hne (.inr e))]⟩ (fun b hb=>by simpa using w3 b hb)
  rw[St.put_other (by omega)]at c1
  exact⟨c1,hgo _ _ c2 c3⟩
 ·have hJ':=hJ;obtain⟨v,ρ,g1,g2,g3,g4,g5,g6,rfl⟩:=hJ;subst hrd;refine rfK_normal ((g4 _ (by simp) (by omega)).trans St.alloc_self) ?_
  have hsn:s.next≠s1.next:=by omega
  try simp -implicitDefEqProofs (disch:=first|exact dsc|fail)[g1,hsn]
  have hnS:s1.next+1<=S.next:=by simpa using g5
  refine kEnd_keep (hq v _ seen ⟨ρ,g2.same (by simp) (fun b hb=>St.put_other (fun e=>by have:=g3 b hb;simp at this;omega)),⟨by simp;omega,fun {b} hb=>?_⟩,fun b hb=>by have:=g3 b hb;simp at this;omega⟩ hp)
  rw[St.put_other (by omega),g4 b (by simp;omega) (by omega),St.alloc_old (by omega),o1.eq hb]
theorem Sorted_u{b bx:Nat}{l:List (Int×Unit)}{Q:Post}{s:St}(hm:SetR .u64 s b l)(hx:Blk s bx [.map (some b)])(hlen:l.length<16000000)
  (hq:∀v S xs,(intE .u64).New s S v xs->xs.Perm (ks l)->xs.Pairwise (·<·)->Q v S):CC X 97 [.func (.func 132) #[] #[.pointer (some ⟨bx,0,none⟩)]] Q s:=by
 refine f97xin rfl ?_
 try simp -implicitDefEqProofs (disch:=first|exact dsc|fail)[]
 refine f131xin rfl ?_
 try simp -implicitDefEqProofs (disch:=first|exact dsc|fail)[]
 refine AppendSeq_u hm hx hlen fun v S xs hn hp=>?_
 try simp -implicitDefEqProofs (disch:=first|exact dsc|fail)[]
 refine kEnd_keep ?_;have hxl:xs.length<16000000:=by have:=hp.length_eq;simp[ks]at this;omega
 obtain⟨ρ,h1,h2,h3⟩:=hn
 try simp -implicitDefEqProofs (disch:=first|exact dsc|fail)[]
 refine Sort_u h1 hxl fun S' ys k1 k2 k3 k4=>?_
 try simp -implicitDefEqProofs (disch:=first|exact dsc|fail)[]
 have hnd:ys.Nodup:=(k3.trans hp).symm.nodup_iff.1 hm.nd;refine kEnd_keep (hq v S' ys (Enc.New.turn h2 h3 k1 k2 (fun b hb=>.inl hb)) (k3.trans hp) ?_)
 ·exact(k4.and hnd).imp fun⟨a,b⟩=>by omega
theorem Keys_u{b:Nat}{Q:Post}{s:St}(hq:∀bx S,Blk S bx [.map (some b)]->Old s S->s.next<=bx->Q (.func (.func 132) #[] #[.pointer (some ⟨bx,0,none⟩)]) S):CC X 98 [.map (some b)] Q s:=by
 refine f98xin rfl ?_
 try simp -implicitDefEqProofs (disch:=first|exact dsc|fail)[mkFn,Value.oneCell']
 exact kEnd_keep (hq s.next _ ⟨by simp,by simp⟩ (by simp) (Nat.le_refl _))
end Go.Zz
namespace Go.Zz
open Go
theorem nil_ptr{P:Program}{t e:TypeId}{a:Addr}(ht:P.underlying t=some (.pointer e)):binV P .eql t (.pointer (some a)) (.pointer none)=some (.bool false):=by simp[binV,eqOp,ht]
theorem nil_ptr_ne{P:Program}{t e:TypeId}{a:Addr}(ht:P.underlying t=some (.pointer e)):binV P .neq t (.pointer (some a)) (.pointer none)=some (.bool true):=by simp[binV,eqOp,ht]
theorem nil_nil{P:Program}{t e:TypeId}(ht:P.underlying t=some (.pointer e)):binV P .eql t (.pointer none) (.pointer none)=some (.bool true):=by simp[binV,eqOp,ht]
theorem wrap_div{a b:Int}(h0:0<=a)(h1:a<9223372036854775808)(hb:0<=b):IntKind.i64.wrap (a/b)=a/b:=by
 have h2:=Int.ediv_nonneg h0 hb;have h3:=Int.ediv_le_self b h0;exact wrap_i64 (by omega) (by omega)
theorem Looper.old{n0:Nat}{J:(Nat->Prop)->St->Prop}(hL:Looper n0 J){M:Nat->Prop}{S S':St}(h:J M S)(o:Old S S')(hn:n0<=S.next):J M S':=
 hL.st h o.le (fun b hb=>o.eq (hb.elim (fun h=>by omega) (fun hm=>(hL.lt h hm).2)))
theorem set_map{α:Type}{xs:List α}{i:Nat}{g:α->α}{p:α->Bool}(hi:i<xs.length)(h1:p xs[i]=true)(h2:∀j (hj:j<xs.length),j≠i->p xs[j]=false):xs.set i (g xs[i])=xs.map fun x=>if p x then g x else x:=by
 apply List.ext_getElem
 ·simp
 ·intro j h3 h4;have hj:j<xs.length:=by simpa using h3
  rw[List.getElem_set,List.getElem_map];by_cases e:i=j
  ·subst e;simp[h1]
  ·rw[if_neg e,h2 j hj (fun e'=>e e'.symm)];simp
theorem take_drop_filter{α:Type}{xs:List α}{i:Nat}{p:α->Bool}(hi:i<xs.length)(h1:p xs[i]=false)(h2:∀j (hj:j<xs.length),j≠i->p xs[j]=true):xs.take i++xs.drop (i+1)=xs.filter p:=by
 have e1:(xs.take i).filter p=xs.take i:=by
  rw[List.filter_eq_self];intro x hx;obtain⟨j,hj,rfl⟩:=List.getElem_of_mem hx;simp at hj;rw[List.getElem_take];exact h2 j (by omega) (by omega)
 have e2:(xs.drop (i+1)).filter p=xs.drop (i+1):=by
  rw[List.filter_eq_self];intro x hx;obtain⟨j,hj,rfl⟩:=List.getElem_of_mem hx;simp at hj;rw[List.getElem_drop];exact h2 _ (by omega) (by omega)
 conv=>rhs;rw[<-List.take_append_drop i xs,List.drop_eq_getElem_cons hi,List.filter_append,List.filter_cons,h1,e1]
 simp[e2]
@[simp]theorem fillV_eq(place:Nat->Option (Nat×Nat))(zero:List Value)(ps:List (Nat×Value)):fillV place zero ps.toArray=if ps.all (fun p=>data p.2)then(Instr.fill place zero.toArray ps).map (·.toList)else none:=by
 unfold fillV;rw[show ps.toArray.all (fun p=>data p.2)=ps.all (fun p=>data p.2)from List.all_toArray]
attribute [simp] Instr.fill
structure Fd(s S:St)(o o':Nat->Nat)(c:Nat->Prop):Prop where
 chg:Chg s S (fun b=>c (o b))
 col:∀{b},b<s.next->o' b=o b
theorem Fd.refl{s:St}{o:Nat->Nat}{c:Nat->Prop}:Fd s s o o c:=⟨.refl,fun _=>rfl⟩
theorem Fd.trans{s S S':St}{o o' o'':Nat->Nat}{c:Nat->Prop}(h:Fd s S o o' c)(g:Fd S S' o' o'' c):Fd s S' o o'' c:=
 ⟨h.chg.trans g.chg (fun b hb=>by
  rcases Nat.lt_or_ge b s.next with e|e
  ·rw[h.col e]at hb;exact .inl hb
  ·exact .inr e),fun hb=>(g.col (Nat.lt_of_lt_of_le hb h.chg.le)).trans (h.col hb)⟩
theorem Fd.mono{s S:St}{o o':Nat->Nat}{c d:Nat->Prop}(h:Fd s S o o' c)(hd:∀x,c x->d x):Fd s S o o' d:=⟨h.chg.mono (fun _ hb=>hd _ hb),h.col⟩
theorem Old.fd{s S:St}{o:Nat->Nat}{c:Nat->Prop}(h:Old s S):Fd s S o o c:=⟨h.chg,fun _=>rfl⟩
def tint(o:Nat->Nat)(n c:Nat):Nat->Nat:=fun b=>if n<=b then c else o b
theorem Old.tint{s S:St}{o:Nat->Nat}{c:Nat->Prop}{k:Nat}(h:Old s S):Fd s S o (tint o s.next k) c:=⟨h.chg,fun hb=>if_neg (by omega)⟩
theorem Chg.tint{s S:St}{o:Nat->Nat}{M c:Nat->Prop}{k:Nat}(h:Chg s S M)(hM:∀b,b<s.next->M b->c (o b)):Fd s S o (tint o s.next k) c:=
 ⟨⟨h.le,fun hb hn=>h.eq hb (fun hm=>hn (hM _ hb hm))⟩,fun hb=>if_neg (by omega)⟩
theorem tint_new{o:Nat->Nat}{n c b:Nat}(h:n<=b):tint o n c b=c:=if_pos h
theorem tint_old{o:Nat->Nat}{n c b:Nat}(h:b<n):tint o n c b=o b:=if_neg (by omega)
theorem Blk.fd{s S:St}{o o':Nat->Nat}{c:Nat->Prop}{b:Nat}{vs:List Value}(h:Blk s b vs)(f:Fd s S o o' c)(hc:¬c (o b)):Blk S b vs:=h.chg f.chg hc
section
variable {α : Type} {w : Nat} {E : Enc α w} {xs : List α} {s : St} {b : Nat}
theorem Blk.at_(h:Blk s b (E.row xs)):E.At s b 0 xs:=⟨[],[],_,by simpa using h.eq,rfl⟩
theorem Blk.fld(h:Blk s b (E.row xs)){z:α}{i k n:Nat}(hi:i<xs.length)(hk:k<w):loadV (some (false,n)) (.pointer (some ⟨b,i*w+k,none⟩)) s=(E.cells (xs.getD i z))[k]?:=by
 have:=h.at_.fld (n:=n) hi hk;rw[Nat.zero_add]at this;rw[this,List.getD_eq_getElem?_getD,List.getElem?_eq_getElem hi];rfl
theorem idxVal_row{z:α}{q:IntKind}{j:Int}{l:Nat}(hl:l=xs.length)(h0:0<=j)(h1:j<l):idxVal false (some (some l,true,w)) (.agg (E.row xs).toArray) (.int q j)=some (.agg (E.cells (xs.getD j.toNat z)).toArray):=by
 subst hl;have hi:j.toNat<xs.length:=by omega
 have hm:j.toNat*w+w<=xs.length*w:=by rw[<-Nat.succ_mul];exact Nat.mul_le_mul_right w hi
 have e:((E.row xs).drop (j.toNat*w)).take w=E.cells xs[j.toNat]:=by
  rw[Enc.row_drop (by omega),List.drop_eq_getElem_cons hi,Enc.row_cons,List.take_append_of_le_length (by simp)]
  exact List.take_of_length_le (by simp)
 have e2:((E.row xs).toArray.extract (j.toNat*w) (j.toNat*w+w))=(E.cells xs[j.toNat]).toArray:=by
  rw[<-e];simp[List.extract_toArray,List.extract_eq_take_drop]
 simp only[idxVal,partV];rw[if_pos ⟨h0,h1⟩,if_pos (by simp;omega),if_pos trivial,e2,List.getD_eq_getElem?_getD,List.getElem?_eq_getElem hi];rfl
end
def Stab(y:Nat)(R:(Nat->Prop)->St->Prop):Prop:=∀{M S S'},R M S->S.next<=S'.next->(∀b,b<y\/M b->S'.heap b=S.heap b)->R M S'
structure JX(s1:St)(rd:AObj)(c:Nat->Prop)(R:(Nat->Prop)->St->Prop)(M:Nat->Prop)(S:St):Prop where
 inv:R M S
 ready:S.heap s1.next=some rd
 eq:∀b,b<s1.next->¬c b->S.heap b=s1.heap b
 le:s1.next<S.next
 lt:∀b,M b->s1.next<b/\b<S.next
section
variable {s1 S : St} {rd bsy : AObj} {c : Nat → Prop} {R R' : (Nat → Prop) → St → Prop} {M : Nat → Prop} {D : (Nat → Prop) → St → Prop}
theorem JX.looper(hR:Stab s1.next R):Looper (s1.next+1) (JX s1 rd c R) where
 lt:=fun h hb=>h.lt _ hb
 st:=fun h hn he=>⟨hR h.inv hn (fun b hb=>he b (hb.imp (fun e=>by omega) id)),(he _ (.inl (by omega))).trans h.ready,fun b hb hc=>(he b (.inl (by omega))).trans (h.eq b hb hc),Nat.lt_of_lt_of_le h.le hn,fun b hb=>⟨(h.lt b hb).1,Nat.lt_of_lt_of_le (h.lt b hb).2 hn⟩⟩
theorem JX.start(hR:Stab s1.next R)(h:R (fun _=>False) s1):JX s1 rd c R (fun _=>False) (s1.alloc rd):=
 ⟨hR h (by simp) (fun b hb=>St.alloc_old (hb.elim id False.elim)),by simp,fun b hb _=>St.alloc_old hb,by simp,fun _ h=>h.elim⟩
def Body(s1:St)(bsy rd:AObj)(c:Nat->Prop)(R R':(Nat->Prop)->St->Prop)(B:Post->St->Prop):Prop:=
 ∀(M:Nat->Prop) (S:St) (Q:Post),R M S->Chg s1 S c->s1.next<S.next->(∀b,M b->s1.next<b/\b<S.next)->
  (∀M' S',R' M' S'->Chg S S' (fun b=>b<s1.next/\c b\/M b)->(∀b,M' b->M b\/S.next<=b/\b<S'.next)->S'.heap s1.next=some bsy/\Q (.bool true) (S'.put s1.next rd))->B Q S
theorem JX.round{C:CallT}{args:List Value}{B:Post->St->Prop}(hR:Stab s1.next R)(hR':Stab s1.next R')
  (hY:∀Q s',s1.next<s'.next->s'.heap s1.next=some rd->(s'.heap s1.next=some rd/\B Q (s'.put s1.next bsy))->C (tok s1.next) args Q s') (hB:Body s1 bsy rd c R R' B) :
  Round C s1.next (s1.next+1) args (JX s1 rd c R) (JX s1 rd c R') D:=by
 intro M S Q hJ hgo _;refine hY Q S hJ.le hJ.ready ⟨hJ.ready,hB M _ Q (hR hJ.inv (by simp) (fun b hb=>St.put_other (fun e=>?_))) ⟨by simpa using Nat.le_of_lt hJ.le,fun {b} hb hc=>?_⟩ (by simpa using hJ.le) (fun b hb=>by simpa using hJ.lt b hb) fun M' S' h1 h2 h3=>?_⟩
 ·subst e;rcases hb with h|h
  ·omega
  ·have:=hJ.lt _ h;omega
 ·rw[St.put_other (by omega)];exact hJ.eq b hb hc
 ·have hle:=h2.le;simp only[St.put_next]at hle h3;have hM':∀b,M' b->s1.next<b/\b<S'.next:=fun b hb=>by
   rcases h3 b hb with e|e
   ·have:=hJ.lt b e;omega
   ·have:=hJ.le;omega
  refine⟨(h2.eq (by simpa using hJ.le) (fun e=>e.elim (fun e=>by omega) (fun e=>by have:=hJ.lt _ e;omega))).trans St.put_self,hgo M' _ ⟨hR' h1 (by simp) (fun b hb=>St.put_other (fun e=>?_)),St.put_self,fun b hb hc=>?_,?_,fun b hb=>by simpa using hM' b hb⟩ ⟨by simpa using hle,fun b hb hlt hm=>?_,fun b hb=>?_⟩⟩
  ·subst e;rcases hb with h|h
   ·omega
   ·have:=hM' _ h;omega
  ·have:=hJ.le;rw[St.put_other (by omega),h2.eq (by simp;omega) (fun e=>e.elim (fun e=>hc e.2) (fun e=>by have:=hJ.lt _ e;omega)),St.put_other (by omega)]
   exact hJ.eq b hb hc
  ·have:=hJ.le;simp;omega
  ·rw[St.put_other (by omega),h2.eq (by simpa using hlt) (fun e=>e.elim (fun e=>by omega) hm),St.put_other (by omega)]
  ·exact(h3 b hb).imp id (fun e=>e.1)
theorem JX.done{L:List Value}{ps:Array Tmp}{aC bd:Code}{K:CPost}{A:Fr}(h:JX s1 (.loop L ps aC bd .ready none) c R M S)(hR:Stab s1.next R)
  (hk:∀S',R M S'->Chg s1 S' c->(∀b,M b->s1.next<b/\b<S'.next)->K .normal A S'):rfK s1.next K A S:=by
 refine rfK_normal h.ready (hk _ (hR h.inv (by simp) (fun b hb=>St.put_other (fun e=>?_))) ⟨by simpa using Nat.le_of_lt h.le,fun {b} hb hc=>?_⟩ (fun b hb=>by simpa using h.lt b hb))
 ·subst e;rcases hb with h'|h'
  ·omega
  ·have:=h.lt _ h';omega
 ·rw[St.put_other (by omega)];exact h.eq b hb hc
end
def Coll{α:Type}{w:Nat}(E:Enc α w)(b3:Nat)(p:List α->Prop)(M:Nat->Prop)(S:St):Prop:=
 ∃v ρ xs,S.heap b3=some (.cells [v] false)/\E.Own S v ρ xs/\M=Row ρ/\p xs
section
variable {α : Type} {w : Nat} {E : Enc α w} {b3 y : Nat} {p : List α → Prop} {M c : Nat → Prop} {S S2 : St} {v v' : Value} {ρ ρ' : Option Nat} {xs ys : List α}
theorem Coll.stab(hb:b3<y):Stab y (Coll E b3 p):=by
 rintro M S S' ⟨v,ρ,xs,h1,h2,rfl,h4⟩ hn he;exact⟨v,ρ,xs,(he b3 (.inl hb)).trans h1,h2.same hn (fun b hb=>he b (.inr hb)),rfl,h4⟩
theorem Coll.start(hb:S.heap b3=some (.cells [.slice none 0 0] false))(hp:p []):Coll E b3 p (fun _=>False) S:=
 ⟨_,none,[],hb,.nil,by funext b;simp[Row],hp⟩
theorem Coll.step(hb:b3<y)(hc:c b3)(hy:y<S.next)(hlt:∀b,Row ρ b->y<b/\b<S.next)(w1:E.Own S2 v' ρ' ys)(w2:Chg S S2 (Row ρ))(w3:∀b,ρ'=some b->ρ=some b\/S.next<=b)(hp:p ys) :
  Coll E b3 p (Row ρ') (S2.put b3 (.cells [v'] false))/\Chg S (S2.put b3 (.cells [v'] false)) (fun b=>b<y/\c b\/Row ρ b)/\∀b,Row ρ' b->Row ρ b\/S.next<=b/\b<(S2.put b3 (.cells [v'] false)).next:=by
 have hne:∀b,ρ'=some b->b≠b3:=fun b hb' e=>by
  rcases w3 b hb' with h|h
  ·have:=hlt b h;omega
  ·omega
 refine⟨⟨v',ρ',ys,St.put_self,w1.same (by simp) (fun b hb'=>St.put_other (hne b hb')),rfl,hp⟩,⟨by simpa using w2.le,fun {b} hb' hm=>?_⟩,fun b hb'=>?_⟩
 ·rw[St.put_other (fun e=>hm (.inl ⟨by omega,by rw[e];exact hc⟩)),w2.eq hb' (fun e=>hm (.inr e))]
 ·refine(w3 b hb').imp id (fun h=>⟨h,?_⟩);have hb2:ρ'=some b:=hb';subst hb2;simpa using w1.lt
end
theorem Old.trans_chg{s S S':St}{M:Nat->Prop}(h:Old s S)(g:Chg S S' M)(hM:∀b,b<s.next->¬M b):Old s S':=
 ⟨Nat.le_trans h.le g.le,fun hb=>(g.eq (Nat.lt_of_lt_of_le hb h.le) (hM _ hb)).trans (h.eq hb)⟩
theorem St.alloc_put{s:St}{y:Nat}{x z:AObj}(h:y<s.next):(s.alloc x).put y z=(s.put y z).alloc x:=by
 have h1:((s.alloc x).put y z).heap=((s.put y z).alloc x).heap:=by
  funext b;show(if b=y then some z else if b=s.next then some x else s.heap b)=(if b=s.next then some x else if b=y then some z else s.heap b)
  split<;>split<;>first|rfl|omega
 have h2:((s.alloc x).put y z).next=((s.put y z).alloc x).next:=rfl
 cases h3:(s.alloc x).put y z;cases h4:(s.put y z).alloc x;rw[h3,h4]at h1 h2;cases h1;cases h2;rfl
theorem Enc.Own.pushC{α:Type}{w:Nat}{E:Enc α w}{xs:List α}{s:St}{v:Value}{P:Program}{t e:TypeId}{bytes:Nat}{zero:List Value}{k:Post}{p:Value->St->Prop}{ρ:Option Nat}{x:Value}{a:α}(hts:tSlice P t=some (e,w,bytes,zero))(htz:tZeros P t=some false)(h:E.Own s v ρ xs)
  (hd:data x=true) (hc:x.cells.toList=E.cells a) (hlen:(xs.length+1)*bytes<=140737488355328) (hlen2:xs.length+1<=140737488355328) (hp:p (.slice (some ⟨s.next,0,none⟩) 1 1) (s.alloc (.cells (E.cells a) true)))
  (hk:∀v' S ρ',E.Own S v' ρ' (xs++[a])->Chg s S (Row ρ)->(∀b,ρ'=some b->ρ=some b\/s.next<=b)->k v' S) (hz:zero.length=w:=by rfl) (hw:0<w:=by decide) (hw':w<=16777216:=by decide) :
  newW (bslN (some (e,w,bytes,zero)) 1 #[(0,x)]) (fun y s=>chkW (some true) (p y s) (apdW P (tSlice P t) t v y k s)) s:=by
 have:=h.push (k:=k) hts htz hd hc hlen hlen2 hk hz hw hw';rw[bsl_one hd hc hz hw',newW_slc]at this ⊢;exact⟨hp,this⟩
@[simp]theorem foldV_min{k:IntKind}{x y:Int}:foldV min2 [.int k x,.int k y]=some (.int k (if y<x then y else x)):=rfl
@[simp]theorem foldV_max{k:IntKind}{x y:Int}:foldV max2 [.int k x,.int k y]=some (.int k (if y>x then y else x)):=rfl
section
variable {α : Type} {q : IntKind} {f : α → Value} {s : St} {it b : Nat} {l todo : List (Int × α)} {p : Int × α}
structure IterD(q:IntKind)(f:α->Value)(s:St)(it b:Nat)(l todo:List (Int×α))(cur:Option (Int×α)):Prop where
 lt:b<s.next/\it<s.next
 nd:(l.map (·.1)).Nodup
 at_:∃(bs:List Nat) (c:Nat) (seen:List Nat),s.heap b=some (.map (kv q f l) bs c)/\bs.length=l.length/\(∀t∈bs,t<c)/\bs.Nodup/\s.heap it=some (.iter (some b) c seen c)/\
  (∀j (hj:j<l.length) (hb:j<bs.length),bs[j]∉seen↔l[j]∈todo)/\(∀p,cur=some p->∃j,l[j]?=some p/\seen.getLast?=bs[j]?/\j<bs.length)
theorem IterD.start{k:Post}(h:MapR q f s b l)(hk:∀S,IterD q f S s.next b l l none->S.next=s.next+1->Old s S->k (.pointer (some ⟨s.next,0,none⟩)) S):rangeW true (.map (some b)) k s:=by
 obtain⟨bs,c,h1,h2,h3,h4⟩:=h.eq;have hl:=h.lt;simp only[rangeW,h1];refine⟨trivial,hk _ ⟨⟨by simp;omega,by simp⟩,h.nd,bs,c,[],?_,h2,h3,h4,by simp,fun j hj _=>by simp,fun p h=>by cases h⟩ (by simp) (Old.alloc (.refl _))⟩
 rw[St.alloc_old h.lt];exact h1
theorem IterD.next{cur:Option (Int×α)}{k:Post}(h:IterD q f s it b l todo cur)(htd:todo.Nodup)
  (hnew:∀p∈l,∀t1 t2,todo=t1++p::t2->∀S,IterD q f S it b l (t1++t2) (some p)->S.next=s.next->(∀{b'},b'≠it->S.heap b'=s.heap b')->k (.tuple #[.bool true,.int q p.1,f p.2]) S)
  (hdone:(∀p∈l,p∉todo)->k (.tuple #[.bool false]) s):nextW false (.pointer (some ⟨it,0,none⟩)) k s:=by
 obtain⟨bs,c,seen,h1,h2,h3,h4,h5,h6,_⟩:=h.at_;have hne:it≠b:=fun e=>by rw[e,h1]at h5;cases h5
 simp only[nextW,h5,h1];refine⟨trivial,trivial,h3,Nat.le_refl _,fun j t e hj he hts=>?_,fun hall=>hdone fun p hp=>?_⟩
 ·obtain⟨hjb,hjt⟩:=List.getElem?_eq_some_iff.1 hj;have hjl:j<l.length:=by omega
  have hee:e=(.int q l[j].1,f l[j].2):=by
   simp only[kv,List.getElem?_map,List.getElem?_eq_getElem hjl]at he;simpa using he.symm
  rw[hee];have hmem:l[j]∈todo:=(h6 j hjl hjb).1 (by rw[hjt];exact hts)
  obtain⟨t1,t2,ht⟩:=List.append_of_mem hmem;refine hnew l[j] (List.getElem_mem hjl) t1 t2 ht _ ⟨⟨by simpa using h.lt.1,by simpa using h.lt.2⟩,h.nd,bs,c,seen++[t],?_,h2,h3,h4,St.put_self,fun i hi hib=>?_,fun p hp=>?_⟩ (by simp) (fun hb=>St.put_other hb)
  ·rw[St.put_other (fun e=>hne e.symm)];exact h1
  ·have hlnd:l.Nodup:=List.Pairwise.of_map _ (fun a b hab e=>hab (by rw[e])) h.nd
   have e1:bs[i]=t↔i=j:=⟨fun e=>nodup_inj h4 (hi:=hib) (hj:=hjb) (by rw[e,hjt]),fun e=>by subst e;exact hjt⟩
   have e2:l[i]=l[j]↔i=j:=⟨fun e=>nodup_inj hlnd e,fun e=>by subst e;rfl⟩
   have e3:=h6 i hi hib;rw[ht]at htd e3;have e4:l[j]∉t1++t2:=by
    obtain⟨_,g2,g3⟩:=List.nodup_append.1 htd;intro hm;rcases List.mem_append.1 hm with hm|hm
    ·exact g3 _ hm _ (by simp) rfl
    ·exact(List.nodup_cons.1 g2).1 hm
   simp only[List.mem_append,List.mem_singleton,not_or,e1];constructor
   ·rintro⟨g1,g2⟩;have:=e3.1 g1;simp only[List.mem_append,List.mem_cons]at this;rcases this with h|h|h
    ·exact .inl h
    ·exact absurd (e2.1 h) g2
    ·exact .inr h
   ·intro g;refine⟨e3.2 (by simp only[List.mem_append,List.mem_cons];exact g.imp id .inr),fun e=>?_⟩
    subst e;exact e4 (List.mem_append.2 g)
  ·cases hp;exact⟨j,List.getElem?_eq_getElem hjl,by simp[hj],hjb⟩
 ·intro ht;obtain⟨j,hj,rfl⟩:=List.getElem_of_mem hp;have hjb:j<bs.length:=by omega
  exact(h6 j hj hjb).2 ht (hall _ (List.getElem_mem hjb))
theorem IterD.entry{k:Post}(h:IterD q f s it b l todo (some p))(hk:k (.tuple #[.int q p.1,f p.2]) s):entryW (.pointer (some ⟨it,0,none⟩)) k s:=by
 obtain⟨bs,c,seen,h1,h2,h3,h4,h5,h6,h7⟩:=h.at_;obtain⟨j,hj,hl,hjb⟩:=h7 p rfl;simp only[entryW,h5,h1];refine⟨trivial,trivial,bs[j],j,(.int q p.1,f p.2),by rw[hl,List.getElem?_eq_getElem hjb],List.getElem?_eq_getElem hjb,by simp[kv,hj],hk⟩
end
def bytesL(acc:ByteArray):List Int->ByteArray
 | []=>acc
 | n::r=>bytesL (acc.push (UInt8.ofNat n.toNat)) r
theorem bytesOf_row{xs:List Int}{acc:ByteArray}:bytesOf? ((intE .u8).row xs) acc=some (bytesL acc xs):=by
 induction xs generalizing acc with
 | nil=>rfl
 | cons a r ih=>rw[Enc.row_cons];exact ih
theorem Enc.Sl.cells_{α:Type}{w:Nat}{E:Enc α w}{xs:List α}{v:Value}{s:St}(h:E.Sl s v xs):(∃a l c,v=.slice a l c)/\sliceCells w v s=some (E.row xs):=by
 cases h with
 | nil=>exact⟨⟨_,_,_,rfl⟩,rfl⟩
 | empty=>exact⟨⟨_,_,_,rfl⟩,by simp[sliceCells]⟩
 | row h=>
  refine⟨⟨_,_,_,rfl⟩,?_⟩;obtain⟨pre,post,tl,hb,rfl⟩:=h;by_cases hx:xs=[]
  ·subst hx;simp[sliceCells]
  ·have h0:¬xs.length=0:=fun e=>hx (List.length_eq_zero_iff.1 e);simp only[sliceCells,if_neg h0,hb];rw[if_pos (by simp),List.drop_left,List.take_append_of_le_length (by simp),List.take_of_length_le (by simp)]
theorem strV_in{xs:List Int}{v:Value}{s:St}(h:(intE .u8).Sl s v xs):strV v s=some (.string (bytesL .empty xs)):=by
 obtain⟨⟨a,l,c,rfl⟩,h2⟩:=h.cells_;simp only[strV,h2,Option.bind_some,bytesOf_row,Option.map_some]
@[congr]theorem nextW_congr{b:Bool}{v v':Value}{k:Post}{s:St}(h:mk v=v'):nextW b v k s=nextW b v' k s:=by simp only[mk]at *;rw[h]
@[congr]theorem entryW_congr{v v':Value}{k:Post}{s:St}(h:mk v=v'):entryW v k s=entryW v' k s:=by simp only[mk]at *;rw[h]
@[congr]theorem rangeW_congr{b b':Bool}{v v':Value}{k:Post}{s:St}(hb:mk b=b')(h:mk v=v'):rangeW b v k s=rangeW b' v' k s:=by simp only[mk]at *;rw[h,hb]
end Go.Zz
