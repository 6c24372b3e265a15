import Derived.Test.YtnghaapdoanabaaGreatDoorWD
set_option linter.all false
set_option maxRecDepth 20000
set_option linter.all false
namespace Go.Zz
open Go
variable {X : Y0}
structure RuleM where
 kind:Int
 len:Int
 for_:Int
def A3m:Enc RuleM 3:=⟨fun x=>[.int .i64 x.kind,.int .i64 x.len,.int .i64 x.for_],fun _=>rfl⟩
@[simp]theorem F6r(x:RuleM):A3m.cells x=[.int .i64 x.kind,.int .i64 x.len,.int .i64 x.for_]:=rfl
structure Kp where
 r:RuleM
 box:Nat
def kpF(k:Kp):Value:=if k.r.kind=1 then .func (.func 84) #[] #[]else if k.r.kind=2 then .func (.func 85) #[] #[.pointer (some ⟨k.box,0,none⟩)]else .func (.func 87) #[] #[.pointer (some ⟨k.box,0,none⟩)]
def kpE:Enc Kp 2:=⟨fun k=>[kpF k,.int .i64 k.r.for_],fun _=>rfl⟩
@[simp]theorem G31(k:Kp):kpE.cells k=[kpF k,.int .i64 k.r.for_]:=rfl
structure A64 where
 l:List Kp
 never:Int
 nevers:Bool
def B2z(n:Int):Bool:=decide (1<=n)&&decide (n<=1073741824)
def A54(r:RuleM):Bool:=if r.kind=1\/r.kind=4 then decide (r.len=0)&&B2z r.for_ else if r.kind=2\/r.kind=3 then B2z r.len&&B2z r.for_ else false
def C2x(sl:Value)(A:A64):Value:=.agg #[sl,.int .i64 A.never,.bool A.nevers]
structure B5c(s:St)(o:Nat->Nat)(sl:Value)(A:A64):Prop where
 own:∃ρ,kpE.Own s sl ρ A.l/\∀r,ρ=some r->o r=0
 box:∀k∈A.l,k.r.kind≠1->Blk s k.box (A3m.cells k.r)/\o k.box=0
 ok:∀k∈A.l,A54 k.r=true/\k.r.kind≠4
 len:A.l.length<=16
 nev:A.nevers=true->1<=A.never/\A.never<=1073741824
theorem B5c.fd{s S:St}{o o':Nat->Nat}{d:Nat->Prop}{sl:Value}{A:A64}(h:B5c s o sl A)(g:Fd s S o o' d)(hd:¬d 0):B5c S o' sl A:=by
 obtain⟨ρ,h1,h2⟩:=h.own;have hl:∀r,ρ=some r->r<s.next:=fun r hr=>by subst hr;exact h1.lt
 exact⟨⟨ρ,h1.same g.chg.le (fun r hr=>g.chg.eq (hl r hr) (by rw[h2 r hr];exact hd)),fun r hr=>(g.col (hl r hr)).trans (h2 r hr)⟩,
  fun k hk hk1=>let ⟨a,b⟩:=h.box k hk hk1;⟨a.fd g (by rw[b];exact hd),(g.col a.lt).trans b⟩,h.ok,h.len,h.nev⟩
section
variable {s : St} {o : Nat → Nat} {sl : Value} {A : A64} {T : List Item} {t c : Nat} {num : Int} {Q : Post}
theorem A6o{n:Int}(hq:Q (.bool (B2z n)) s):CC X 121 [.int .i64 n] Q s:=by
 refine F0u rfl ?_;unfold B2z at hq;by_cases h:1<=n
 ·try simp -implicitDefEqProofs (disch:=first|exact dsc|fail)[h]
  simpa[h]using hq
 ·try simp -implicitDefEqProofs (disch:=first|exact dsc|fail)[h]
  simpa[h]using hq
theorem C40{r:RuleM}(hq:Q (.bool (A54 r)) s):CC X 83 [.agg #[.int .i64 r.kind,.int .i64 r.len,.int .i64 r.for_]] Q s:=by
 refine H08 rfl ?_;unfold A54 at hq;by_cases h1:r.kind=1\/r.kind=4
 ·rw[if_pos h1]at hq;by_cases h0:r.len=0
  ·rcases h1 with h|h
   ·try simp -implicitDefEqProofs (disch:=first|exact dsc|fail)[h,h0]
    refine A6o ?_
    try simp -implicitDefEqProofs (disch:=first|exact dsc|fail)[]
    exact A0b (by simp) (.bool _) (by simpa[h0]using hq)
   ·try simp -implicitDefEqProofs (disch:=first|exact dsc|fail)[h,h0]
    refine A6o ?_
    try simp -implicitDefEqProofs (disch:=first|exact dsc|fail)[]
    exact A0b (by simp) (.bool _) (by simpa[h0]using hq)
  ·rcases h1 with h|h
   ·try simp -implicitDefEqProofs (disch:=first|exact dsc|fail)[h,h0]
    exact A0b (by simp) (.bool _) (by simpa[h0]using hq)
   ·try simp -implicitDefEqProofs (disch:=first|exact dsc|fail)[h,h0]
    exact A0b (by simp) (.bool _) (by simpa[h0]using hq)
 ·have h1a:¬r.kind=1:=by omega
  have h1b:¬r.kind=4:=by omega
  rw[if_neg h1]at hq;by_cases h2:r.kind=2\/r.kind=3
  ·rw[if_pos h2]at hq;rcases h2 with h|h
   ·try simp -implicitDefEqProofs (disch:=first|exact dsc|fail)[h]
    refine A6o ?_;by_cases h0:B2z r.len=true
    ·try simp -implicitDefEqProofs (disch:=first|exact dsc|fail)[h0]
     refine A6o ?_
     try simp -implicitDefEqProofs (disch:=first|exact dsc|fail)[h0]
     exact A0b (by simp) (.bool _) (by simpa[h0]using hq)
    ·try simp -implicitDefEqProofs (disch:=first|exact dsc|fail)[h0]
     exact A0b (by simp) (.bool _) (by simpa[h0]using hq)
   ·try simp -implicitDefEqProofs (disch:=first|exact dsc|fail)[h]
    refine A6o ?_;by_cases h0:B2z r.len=true
    ·try simp -implicitDefEqProofs (disch:=first|exact dsc|fail)[h0]
     refine A6o ?_
     try simp -implicitDefEqProofs (disch:=first|exact dsc|fail)[h0]
     exact A0b (by simp) (.bool _) (by simpa[h0]using hq)
    ·try simp -implicitDefEqProofs (disch:=first|exact dsc|fail)[h0]
     exact A0b (by simp) (.bool _) (by simpa[h0]using hq)
  ·rw[if_neg h2]at hq;have h2a:¬r.kind=2:=by omega
   have h2b:¬r.kind=3:=by omega
   try simp -implicitDefEqProofs (disch:=first|exact dsc|fail)[h1a,h1b,h2a,h2b]
   exact A0b (by simp) (.bool _) hq
def B7i(T:List Item)(num:Int)(k:Kp):Bool:=if k.r.kind=1 then true else if k.r.kind=2 then C5h T num k.r.len else D7z T num k.r.len
def B8q(A:A64)(k:Kp):Int:=if A.nevers&&decide (A.never<k.r.for_)then A.never else k.r.for_
def A8r(T:List Item)(A:A64)(num:Int):List Int:=match tMin T num with
 | none=>[]
 | some w=>(A.l.filter (B7i T num)).map fun k=>w+B8q A k
theorem C5g{k:Kp}{ρ:Option Nat}(hT:Tab s t ρ T)(hk:k.r.kind≠1->Blk s k.box (A3m.cells k.r))(hr:A54 k.r=true)(hq:Q (.bool (B7i T num k)) s) :
  A0u P (CC X) (kpF k) [.pointer (some ⟨t,0,none⟩),.int .u64 num] Q s:=by
 unfold kpF;unfold B7i at hq;by_cases h1:k.r.kind=1
 ·rw[if_pos h1]at hq ⊢
  try simp -implicitDefEqProofs (disch:=first|exact dsc|fail)[]
  refine G7p rfl ?_
  try simp -implicitDefEqProofs (disch:=first|exact dsc|fail)[]
  exact hq
 ·have hb:=hk h1;rw[if_neg h1]at hq ⊢;have hlen:k.r.len<=1073741824:=by
   simp only[A54]at hr;split at hr
   ·simp at hr;omega
   ·split at hr
    ·simp[B2z]at hr;omega
    ·cases hr
  by_cases h2:k.r.kind=2
  ·rw[if_pos h2]at hq ⊢
   try simp -implicitDefEqProofs (disch:=first|exact dsc|fail)[]
   refine G9q rfl ?_
   try simp -implicitDefEqProofs (disch:=first|exact dsc|fail)[hb.eq]
   refine C1p hT hlen ?_
   try simp -implicitDefEqProofs (disch:=first|exact dsc|fail)[]
   exact hq
  ·rw[if_neg h2]at hq ⊢
   try simp -implicitDefEqProofs (disch:=first|exact dsc|fail)[]
   refine G4x rfl ?_
   try simp -implicitDefEqProofs (disch:=first|exact dsc|fail)[hb.eq]
   refine C41 hT ?_
   try simp -implicitDefEqProofs (disch:=first|exact dsc|fail)[]
   exact hq
theorem B47{k:Kp}(h:B5c s o sl A)(hk:k∈A.l):1<=B8q A k/\B8q A k<=1073741824:=by
 have h1:=(h.ok k hk).1;have h2:1<=k.r.for_/\k.r.for_<=1073741824:=by
  simp only[A54]at h1;split at h1
  ·simp[B2z]at h1;omega
  ·split at h1
   ·simp[B2z]at h1;omega
   ·cases h1
 unfold B8q;split
 ·rename_i h3;simp at h3;exact h.nev h3.1
 ·exact h2
theorem B8a(h:B5c s o sl A)(hT:TabC s o c t T)(hc:c≠0)(hq:∀v S xs,(intE .i64).New s S v xs->xs.length<=16->xs.Pairwise (·<·)->(∀n,n∈xs↔n∈A8r T A num)->Q v S) :
  CC X 78 [C2x sl A,.pointer (some ⟨t,0,none⟩),.int .u64 num] Q s:=by
 refine G4j rfl ?_;obtain⟨ρk,hk,hkc⟩:=h.own;have hd:=hk.in_.data
 try simp -implicitDefEqProofs (disch:=first|exact dsc|fail)[C2x,hd]
 obtain⟨ρ,hTab,ht1,ht2⟩:=hT;have o1:Old s (s.alloc (.cells [sl,.int .i64 A.never,.bool A.nevers] false)):=by simp
 refine A9k (hTab.old o1) ?_;cases hm:tMin T num with
 | none=>
  try simp -implicitDefEqProofs (disch:=first|exact dsc|fail)[hm]
  exact A0a (hq _ _ [] (.nil o1) (by simp) .nil (fun n=>by simp[A8r,hm]))
 | some w=>
  have hw:=B2o hTab.ok hm
  try simp -implicitDefEqProofs (disch:=first|exact dsc|fail)[hm,hk.in_.len B2i]
  refine D3l fun I hI=>?_;generalize hs1:s.alloc (.cells [sl,.int .i64 A.never,.bool A.nevers] false)=s1 at *;have n1:s1.next=s.next+1:=by subst hs1;simp
  have b1:s1.heap s.next=some (.cells [sl,.int .i64 A.never,.bool A.nevers] false):=by subst hs1;simp
  have hlen:=h.len;refine up (n:=A.l.length) (M:=fun i=>∀S out ρo xs,Old s1 S->(intE .i64).Own S out ρo xs->(∀b,ρo=some b->s1.next<=b)->xs=((A.l.take i).filter (B7i T num)).map (fun k=>w+B8q A k)->I (.pointer (some ⟨t,0,none⟩)) (.int .u64 num) (.pointer (some ⟨s.next,0,none⟩)) (.int .i64 w) out sl (.int .i64 A.l.length) (.int .i64 i) S) (fun i hi ih S out ρo xs hS hO hρ hx=>?_) 0 (Nat.zero_le _) s1 _ none [] (.refl _) .nil (fun b h=>by cases h) (by simp)
  refine hI _ _ _ _ _ _ _ _ _ ?_;by_cases hlt:i<A.l.length
  ·have hkS:=(hk.in_).old (o1.trans hS);have hmem:A.l[i]∈A.l:=List.getElem_mem hlt;have htk:A.l.take (i+1)=A.l.take i++[A.l[i]]:=(List.take_append_getElem hlt).symm;have hxl:xs.length<=16:=by rw[hx,List.length_map];exact Nat.le_trans (List.length_filter_le _ _) (by simp;omega)
   have hsp:=B47 h hmem;have b2:S.heap s.next=some (.cells [sl,.int .i64 A.never,.bool A.nevers] false):=(hS.eq (by omega)).trans b1
   have hSn:=hS.le;have hdk:data (kpF A.l[i])=true/\(kpF A.l[i]).cells=#[kpF A.l[i]]:=by unfold kpF;split<;>(try split)<;>exact⟨rfl,rfl⟩
   have hS2:Old s1 (S.alloc (.cells [kpF A.l[i],.int .i64 A.l[i].r.for_] false)):=hS.alloc
   try simp -implicitDefEqProofs (disch:=first|exact dsc|fail)[hlt,hkS.idx,hkS.agg,hdk]
   refine C5g (k:=A.l[i]) (hTab.old (o1.trans hS2)) (fun hk1=>(h.box _ hmem hk1).1.old (o1.trans hS2)) (h.ok _ hmem).1 ?_;by_cases hkp:B7i T num A.l[i]=true
   ·have hO2:(intE .i64).Own (S.alloc (.cells [kpF A.l[i],.int .i64 A.l[i].r.for_] false)) out ρo xs:=hO.same (by simp) (fun r hr=>St.alloc_old (by subst hr;exact hO.lt))
    have hgo:∀v' S3 ρ',(intE .i64).Own S3 v' ρ' (xs++[w+B8q A A.l[i]])->Chg (S.alloc (.cells [kpF A.l[i],.int .i64 A.l[i].r.for_] false)) S3 (Row ρo)->(∀b,ρ'=some b->ρo=some b\/(S.alloc (.cells [kpF A.l[i],.int .i64 A.l[i].r.for_] false)).next<=b)->I (.pointer (some ⟨t,0,none⟩)) (.int .u64 num) (.pointer (some ⟨s.next,0,none⟩)) (.int .i64 w) v' sl (.int .i64 A.l.length) (.int .i64 (i+1)) S3:=by
     intro v' S3 ρ' w1 w2 w3;have:=ih hlt S3 v' ρ' _ (hS2.trans_chg w2 (fun b hb e=>by have:=hρ b e;omega)) w1 (fun b hb=>(w3 b hb).elim (fun e=>hρ b e) (fun e=>by simp at e;omega)) (by rw[htk,List.filter_append,List.map_append,<-hx];simp[hkp])
     simpa using this
    unfold B8q at hgo hsp;by_cases hnv:A.nevers=true
    ·by_cases hlt2:A.never<A.l[i].r.for_
     ·simp only[hnv,hlt2,decide_true,Bool.and_self,if_true]at hgo hsp
      try simp -implicitDefEqProofs (disch:=first|exact dsc|fail)[hkp,hnv,hlt2,b2]
      refine hO2.push (a:=w+A.never) A5v A6s (by rfl) (by rfl) (by omega) (by omega) fun v' S3 ρ' w1 w2 w3=>?_
      try simp -implicitDefEqProofs (disch:=first|exact dsc|fail)[]
      exact hgo v' S3 ρ' w1 w2 w3
     ·simp only[hnv,hlt2,decide_false,Bool.and_false,Bool.false_eq_true,if_false]at hgo hsp
      try simp -implicitDefEqProofs (disch:=first|exact dsc|fail)[hkp,hnv,hlt2,b2]
      refine hO2.push (a:=w+A.l[i].r.for_) A5v A6s (by rfl) (by rfl) (by omega) (by omega) fun v' S3 ρ' w1 w2 w3=>?_
      try simp -implicitDefEqProofs (disch:=first|exact dsc|fail)[]
      exact hgo v' S3 ρ' w1 w2 w3
    ·simp only[hnv,Bool.false_and,Bool.false_eq_true,if_false]at hgo hsp
     try simp -implicitDefEqProofs (disch:=first|exact dsc|fail)[hkp,hnv,b2]
     refine hO2.push (a:=w+A.l[i].r.for_) A5v A6s (by rfl) (by rfl) (by omega) (by omega) fun v' S3 ρ' w1 w2 w3=>?_
     try simp -implicitDefEqProofs (disch:=first|exact dsc|fail)[]
     exact hgo v' S3 ρ' w1 w2 w3
   ·try simp -implicitDefEqProofs (disch:=first|exact dsc|fail)[hkp]
    have:=ih hlt (S.alloc (.cells [kpF A.l[i],.int .i64 A.l[i].r.for_] false)) out ρo xs hS2 (hO.same (by simp) (fun r hr=>St.alloc_old (by subst hr;exact hO.lt))) hρ (by rw[htk,List.filter_append,List.map_append,<-hx];simp[hkp])
    simpa using this
  ·try simp -implicitDefEqProofs (disch:=first|exact dsc|fail)[hlt]
   have hie:i=A.l.length:=by omega
   have hxl:xs.length<=16:=by rw[hx,List.length_map];exact Nat.le_trans (List.length_filter_le _ _) (by simp;omega)
   refine E6y hO (by omega) fun S3 ys k1 k2 k3 k4=>?_
   try simp -implicitDefEqProofs (disch:=first|exact dsc|fail)[]
   refine D4q k1 (by have:=k3.length_eq;omega) fun v' S4 j1 j2=>?_
   try simp -implicitDefEqProofs (disch:=first|exact dsc|fail)[]
   have o3:Old s1 S3:=hS.trans_chg k2 (fun b hb e=>by have:=hρ b e;omega)
   have o4:Old s S4:=o1.trans (o3.trans_chg j2 (fun b hb e=>by have:=hρ b e;omega))
   refine A0a (hq v' S4 _ ⟨ρo,j1,o4,fun b hb=>by have:=hρ b hb;omega⟩ (by have:=C2c ys;have:=k3.length_eq;omega) (B41 k4) (fun n=>?_))
   rw[C2y,k3.mem_iff,hx,hie,List.take_length];simp[A8r,hm]
end
section
variable {s : St} {o : Nat → Nat} {sl : Value} {A : A64} {T : List Item} {t c : Nat} {num : Int} {Q : Post}
def B56(T:List Item)(A:A64)(num now:Int):Bool:=(tMin T num).isSome&&(decide (now<0)||(A8r T A num).any fun m=>decide (now<m))
theorem D24(h:B5c s o sl A)(hT:TOk T){m:Int}(hm:m∈A8r T A num):1<=m:=by
 unfold A8r at hm;cases hw:tMin T num with
 | none=>rw[hw]at hm;cases hm
 | some w=>
  rw[hw]at hm;obtain⟨k,hk,rfl⟩:=List.mem_map.1 hm;have:=B47 h (List.mem_filter.1 hk).1;have:=B2o hT hw;omega
theorem C81(h:B5c s o sl A)(hT:TabC s o c t T)(hc:c≠0)(hq:∀n:Int,(∀now:Int,(decide (now<n))=(decide (now<0)||(A8r T A num).any fun m=>decide (now<m)))->Q (.int .i64 n) s) :
  CC X 162 [C2x sl A,.pointer (some ⟨t,0,none⟩),.int .u64 num] Q s:=by
 refine F1t rfl ?_;obtain⟨ρk,hk,hkc⟩:=h.own;have hd:=hk.in_.data;have hTab:=hT;obtain⟨ρ,hT1,_,_⟩:=hTab;have o1:Old s (s.alloc (.cells [sl,.int .i64 A.never,.bool A.nevers] false)):=by simp
 have hA:=h.fd (o1.fd (c:=fun _=>False)) (fun h=>h);have hT2:=hT.fd (o1.fd (c:=fun _=>False)) (fun h=>h)
 try simp -implicitDefEqProofs (disch:=first|exact dsc|fail)[C2x,hd]
 refine B8a hA hT2 hc fun v S xs hn hl hs hx=>?_;have hI:=hn.in_;have hlS:=hI.len (P:=P) (s':=S) A00;by_cases h0:xs=[]
 ·subst h0
  try simp -implicitDefEqProofs (disch:=first|exact dsc|fail)[hlS]
  refine A0b (o1.trans hn.old_) (.int _ _) (hq 0 fun now=>?_);have:(A8r T A num).any (fun m=>decide (now<m))=false:=List.any_eq_false.2 fun m hm=>absurd ((hx m).2 hm) (by simp)
  rw[this];simp
 ·obtain⟨xs',y,rfl⟩:∃T' y,xs=T'++[y]:=⟨xs.dropLast,xs.getLast h0,(List.dropLast_concat_getLast _).symm⟩;have e1:(((xs'++[y]).length:Nat):Int)-1=(xs'.length:Nat):=by simp
  have e0:¬(((xs'++[y]).length:Nat):Int)=0:=by simp;omega
  have e2:(xs'++[y])[xs'.length]'(by simp)=y:=by simp
  try simp -implicitDefEqProofs (disch:=first|exact dsc|fail)[hlS,e1,e0,hI.idx,hI.one,e2]
  refine A0b (o1.trans hn.old_) (.int _ _) (hq y fun now=>?_);have hy:=(hx y).1 (by simp)
  have hp:=D24 h hT1.ok hy;rw[Bool.eq_iff_iff];simp only[decide_eq_true_eq,Bool.or_eq_true,List.any_eq_true];constructor
  ·exact fun h=>.inr ⟨y,hy,h⟩
  ·rintro(h|⟨m,hm,h⟩)
   ·omega
   ·have:=(hx m).2 hm;rcases List.mem_append.1 this with e|e
    ·have:=(List.pairwise_append.1 hs).2.2 m e y (by simp);omega
    ·rw[List.mem_singleton.1 e]at h;exact h
theorem C44{now:Int}(h:B5c s o sl A)(hT:TabC s o c t T)(hc:c≠0)(hq:Q (.bool (B56 T A num now)) s) :
  CC X 139 [C2x sl A,.pointer (some ⟨t,0,none⟩),.int .u64 num,.int .i64 now] Q s:=by
 refine F58 rfl ?_;obtain⟨ρk,hk,hkc⟩:=h.own;have hd:=hk.in_.data;have hTab:=hT;obtain⟨ρ,hT1,_,_⟩:=hTab;have o1:Old s (s.alloc (.cells [sl,.int .i64 A.never,.bool A.nevers] false)):=by simp
 have hA:=h.fd (o1.fd (c:=fun _=>False)) (fun h=>h);have hT2:=hT.fd (o1.fd (c:=fun _=>False)) (fun h=>h)
 try simp -implicitDefEqProofs (disch:=first|exact dsc|fail)[C2x,hd]
 refine A9k (hT1.old o1) ?_;unfold B56 at hq;cases hm:tMin T num with
 | none=>
  try simp -implicitDefEqProofs (disch:=first|exact dsc|fail)[hm]
  exact A0b o1 (.bool _) (by simpa[hm]using hq)
 | some w=>
  try simp -implicitDefEqProofs (disch:=first|exact dsc|fail)[hm]
  refine C81 hA hT2 hc fun n hn=>?_
  try simp -implicitDefEqProofs (disch:=first|exact dsc|fail)[]
  refine A0b o1 (.bool _) ?_;rw[hm]at hq;rw[hn now];simpa using hq
end
structure CInv(s S:St)(rs:List RuleM)(i:Nat)(sl:Value)(ρ:Option Nat)(A:A64):Prop where
 old:Old s S
 le:s.next+2<=S.next
 res:S.heap s.next=some (.cells [.slice none 0 0,.int .i64 0,.bool false] false)
 aut:S.heap (s.next+1)=some (.cells [sl,.int .i64 A.never,.bool A.nevers] false)
 own:kpE.Own S sl ρ A.l
 fresh:∀r,ρ=some r->s.next+1<r
 box:∀k∈A.l,Blk S k.box (A3m.cells k.r)/\s.next+1<k.box/\ρ≠some k.box
 rules:A.l.map (·.r)=(rs.take i).filter fun r=>!decide (r.kind=4)
 right:∀r∈rs.take i,A54 r=true
 nevers:A.nevers=(rs.take i).any fun r=>decide (r.kind=4)
 nev:A.nevers=true->1<=A.never/\A.never<=1073741824
section
variable {s S : St} {o : Nat → Nat} {v sl : Value} {ρ : Option Nat} {A : A64} {rs : List RuleM} {i : Nat} {Q : Post}
theorem D0o{r:RuleM}(h:A54 r=true):1<=r.for_/\r.for_<=1073741824:=by
 simp only[A54]at h;split at h
 ·simp[B2z]at h;omega
 ·split at h
  ·simp[B2z]at h;omega
  ·cases h
theorem CInv.auto(h:CInv s S rs i sl ρ A)(hlen:rs.length<=16):B5c S (tint o s.next 0) sl A/\Fd s S o (tint o s.next 0) (fun _=>False):=by
 refine⟨⟨⟨ρ,h.own,fun r hr=>A0d (by have:=h.fresh r hr;omega)⟩,fun k hk _=>⟨(h.box k hk).1,A0d (by have:=(h.box k hk).2.1;omega)⟩,fun k hk=>?_,?_,h.nev⟩,h.old.tint⟩
 ·have:k.r∈(rs.take i).filter fun r=>!decide (r.kind=4):=by rw[<-h.rules];exact List.mem_map.2 ⟨k,hk,rfl⟩
  obtain⟨h1,h2⟩:=List.mem_filter.1 this;exact⟨h.right _ h1,by simpa using h2⟩
 ·have:=congrArg List.length h.rules;rw[List.length_map]at this;rw[this];exact Nat.le_trans (List.length_filter_le _ _) (by simp;omega)
theorem CInv.keep{S1 S3:St}{v':Value}{ρ':Option Nat}(h:CInv s S rs i sl ρ A)(hlt:i<rs.length)(hr:A54 rs[i]=true)(h4:rs[i].kind≠4)(o1:Old S S1)(hb:Blk S1 S.next (A3m.cells rs[i]))
  (w1:kpE.Own S3 v' ρ' (A.l++[⟨rs[i],S.next⟩])) (w2:Chg S1 S3 (Row ρ)) (w3:∀b,ρ'=some b->ρ=some b\/S1.next<=b) :
  S3.heap (s.next+1)=some (.cells [sl,.int .i64 A.never,.bool A.nevers] false)/\CInv s (S3.put (s.next+1) (.cells [v',.int .i64 A.never,.bool A.nevers] false)) rs (i+1) v' ρ' ⟨A.l++[⟨rs[i],S.next⟩],A.never,A.nevers⟩:=by
 have hSn:=h.le;have hρ:=h.fresh;have hρl:∀r,ρ=some r->r<S.next:=fun r hr=>by subst hr;exact h.own.lt
 have o13:∀{b},b<S.next->ρ≠some b->S3.heap b=S.heap b:=fun {b} hb1 hb2=>(w2.eq (Nat.lt_of_lt_of_le hb1 o1.le) hb2).trans (o1.eq hb1)
 have hbl:=hb.lt;have hle:=w2.le;have hle1:=o1.le;have h13:S3.heap (s.next+1)=some (.cells [sl,.int .i64 A.never,.bool A.nevers] false):=(o13 (by omega) (fun e=>by have:=hρ _ e;omega)).trans h.aut
 have htk:rs.take (i+1)=rs.take i++[rs[i]]:=(List.take_append_getElem hlt).symm;have hρ':∀r,ρ'=some r->s.next+1<r:=fun r hr=>(w3 r hr).elim (hρ r) (fun e=>by omega)
 refine⟨h13,⟨⟨by simp;omega,fun {b} hb=>?_⟩,by simp;omega,?_,St.put_self,w1.same (by simp) (fun r hr=>St.put_other (by have:=hρ' r hr;omega)),hρ',fun k hk=>?_,?_,?_,?_,h.nev⟩⟩
 ·rw[St.put_other (by omega),o13 (by omega) (fun e=>by have:=hρ _ e;omega)];exact h.old.eq hb
 ·rw[St.put_other (by omega),o13 (by omega) (fun e=>by have:=hρ _ e;omega)];exact h.res
 ·rcases List.mem_append.1 hk with hk|hk
  ·obtain⟨g1,g2,g3⟩:=h.box k hk;refine⟨⟨by have:=g1.lt;simp;omega,?_⟩,g2,fun e=>?_⟩
   ·rw[St.put_other (by omega),o13 g1.lt g3];exact g1.eq
   ·rcases w3 _ e with e|e
    ·exact g3 e
    ·have:=g1.lt;omega
  ·rw[List.mem_singleton.1 hk];refine⟨⟨by simp only[St.put_next];omega,?_⟩,by show s.next+1<S.next;omega,fun e=>?_⟩
   ·show(S3.put (s.next+1) _).heap S.next=_
    rw[St.put_other (by omega),w2.eq hbl (fun e=>by have:=hρl _ e;omega)];exact hb.eq
   ·rcases w3 _ e with e|e
    ·exact absurd (show S.next<S.next from hρl _ e) (Nat.lt_irrefl _)
    ·have:S1.next<=S.next:=e
     omega
 ·rw[List.map_append,h.rules,htk,List.filter_append];simp[h4]
 ·intro r hr';rw[htk]at hr';rcases List.mem_append.1 hr' with e|e
  ·exact h.right r e
  ·rw[List.mem_singleton.1 e];exact hr
 ·show A.nevers=_;rw[h.nevers,htk,List.any_append];simp[h4]
theorem CInv.never{S1:St}{n:Int}{b:Bool}(h:CInv s S rs i sl ρ A)(hlt:i<rs.length)(hr:A54 rs[i]=true)(h4:rs[i].kind=4)(o1:Chg S S1 (fun b=>b=s.next+1))(ha:S1.heap (s.next+1)=some (.cells [sl,.int .i64 n,.bool b] false))(hb:b=true)(hn:1<=n/\n<=1073741824) :
  CInv s S1 rs (i+1) sl ρ ⟨A.l,n,b⟩:=by
 have hSn:=h.le;have hle:=o1.le;have htk:rs.take (i+1)=rs.take i++[rs[i]]:=(List.take_append_getElem hlt).symm;refine⟨⟨by omega,fun {b} hb=>(o1.eq (by omega) (by omega)).trans (h.old.eq hb)⟩,by omega,(o1.eq (by omega) (by omega)).trans h.res,ha,h.own.same (by omega) (fun r hr=>o1.eq (by subst hr;exact h.own.lt) (by have:=h.fresh r hr;omega)),h.fresh,fun k hk=>?_,?_,?_,?_,fun _=>hn⟩
 ·obtain⟨g1,g2,g3⟩:=h.box k hk;exact⟨g1.chg o1 (by omega),g2,g3⟩
 ·show A.l.map _=_;rw[h.rules,htk,List.filter_append];simp[h4]
 ·intro r hr';rw[htk]at hr';rcases List.mem_append.1 hr' with e|e
  ·exact h.right r e
  ·rw[List.mem_singleton.1 e];exact hr
 ·show b=_;rw[hb,htk,List.any_append];simp[h4]
theorem C1n(hv:A3m.In s v rs)(hlen:rs.length<1000000)
  (hok:∀sl A S o',rs.length<=16->(∀r∈rs,A54 r=true)->B5c S o' sl A->A.l.map (·.r)=rs.filter (fun r=>!decide (r.kind=4))->(A.nevers=rs.any fun r=>decide (r.kind=4))->Fd s S o o' (fun _=>False)->Q (.tuple #[C2x sl A,.int .i64 0]) S)
  (hbad:∀e S,e≠0->¬(rs.length<=16/\∀r∈rs,A54 r=true)->Old s S->Q (.tuple #[.agg #[.slice none 0 0,.int .i64 0,.bool false],.int .i64 e]) S):CC X 47 [v] Q s:=by
 refine G9r rfl ?_
 try simp -implicitDefEqProofs (disch:=first|exact dsc|fail)[hv.len A52]
 by_cases h16:(16:Int)<rs.length
 ·try simp -implicitDefEqProofs (disch:=first|exact dsc|fail)[h16]
  exact A0a (hbad 6 _ (by decide) (fun h=>by omega) (by simp))
 ·try simp -implicitDefEqProofs (disch:=first|exact dsc|fail)[h16,hv.len A52]
  refine D75 fun I hI=>?_;refine up (n:=rs.length) (M:=fun i=>∀S sl ρ A,CInv s S rs i sl ρ A->I (.pointer (some ⟨s.next,0,none⟩)) (.int .i64 0) (.pointer (some ⟨s.next+1,0,none⟩)) v (.int .i64 rs.length) (.int .i64 i) S) (fun i hi ih S sl ρ A hC=>?_) 0 (Nat.zero_le _) _ (.slice none 0 0) none ⟨[],0,false⟩ ?_
  ·refine hI _ _ _ _ _ _ _ ?_;by_cases hlt:i<rs.length
   ·have hvS:=hv.old hC.old
    try simp -implicitDefEqProofs (disch:=first|exact dsc|fail)[hlt,hvS.idx,hvS.agg]
    refine C40 ?_;have hSn:=hC.le;by_cases hr:A54 rs[i]=true
    ·have hC1:=hC.aut;have hf:=D0o hr;have hfv:∀n,data (fv n)=true/\(fv n).cells=#[fv n]:=fun _=>⟨rfl,rfl⟩;have hcl:∀f b,data (.func (.func f) #[] #[.pointer (some ⟨b,0,none⟩)])=true/\Value.cells (.func (.func f) #[] #[.pointer (some ⟨b,0,none⟩)])=#[.func (.func f) #[] #[.pointer (some ⟨b,0,none⟩)]]:=fun _ _=>⟨rfl,rfl⟩;have hA16:A.l.length<=16:=by
      have:=congrArg List.length hC.rules;rw[List.length_map]at this;rw[this];exact Nat.le_trans (List.length_filter_le _ _) (by simp;omega)
     have hkc:∀x y:Value,(Value.agg #[x,y]).cells.toList=[x,y]:=fun _ _=>rfl;have hgo:∀f:Value,rs[i].kind≠4->∀S1,S1=(S.alloc (.cells (A3m.cells rs[i]) false)).alloc (.cells [f,.int .i64 rs[i].for_] false)->Old S S1/\Blk S1 S.next (A3m.cells rs[i])/\kpE.Own S1 sl ρ A.l/\S1.next=S.next+2:=fun f h4 S1 e=>by
      subst e;exact⟨((Old.refl S).alloc).alloc,⟨by simp;omega,(St.alloc_old (by simp)).trans St.alloc_self⟩,hC.own.same (by simp;omega) (fun r hr=>by have hl:r<S.next:=(by subst hr;exact hC.own.lt);rw[St.alloc_old (by simp;omega),St.alloc_old hl]),by simp⟩
     try simp -implicitDefEqProofs (disch:=first|exact dsc|fail)[hr]
     by_cases h1:rs[i].kind=1
     ·try simp -implicitDefEqProofs (disch:=first|exact dsc|fail)[h1,hC1,hfv]
      obtain⟨p1,p2,p3,p4⟩:=hgo (fv 84) (by omega) ((S.alloc (.cells [.int .i64 1,.int .i64 rs[i].len,.int .i64 rs[i].for_] false)).alloc (.cells [fv 84,.int .i64 rs[i].for_] false)) (by simp[h1])
      refine p3.push (a:=⟨rs[i],S.next⟩) B0b B0m (by rfl) (by simp[kpF,h1]<;>rfl) (by omega) (by omega) fun v' S3 ρ' w1 w2 w3=>?_
      obtain⟨q1,q2⟩:=hC.keep hlt hr (by omega) p1 p2 w1 w2 w3
      try simp -implicitDefEqProofs (disch:=first|exact dsc|fail)[q1,w1.in_.data]
      have:=ih hlt _ _ _ _ q2;simpa using this
     ·by_cases h2:rs[i].kind=2
      ·try simp -implicitDefEqProofs (disch:=first|exact dsc|fail)[h2,hC1,hcl,mkFn,Value.oneCell']
       obtain⟨p1,p2,p3,p4⟩:=hgo (.func (.func 85) #[] #[.pointer (some ⟨S.next,0,none⟩)]) (by omega) ((S.alloc (.cells [.int .i64 2,.int .i64 rs[i].len,.int .i64 rs[i].for_] false)).alloc (.cells [.func (.func 85) #[] #[.pointer (some ⟨S.next,0,none⟩)],.int .i64 rs[i].for_] false)) (by simp[h2])
       refine p3.push (a:=⟨rs[i],S.next⟩) B0b B0m (by rfl) (by simp[kpF,h2]<;>rfl) (by omega) (by omega) fun v' S3 ρ' w1 w2 w3=>?_
       obtain⟨q1,q2⟩:=hC.keep hlt hr (by omega) p1 p2 w1 w2 w3
       try simp -implicitDefEqProofs (disch:=first|exact dsc|fail)[q1,w1.in_.data]
       have:=ih hlt _ _ _ _ q2;simpa using this
      ·by_cases h3:rs[i].kind=3
       ·try simp -implicitDefEqProofs (disch:=first|exact dsc|fail)[h3,hC1,hcl,mkFn,Value.oneCell']
        obtain⟨p1,p2,p3,p4⟩:=hgo (.func (.func 87) #[] #[.pointer (some ⟨S.next,0,none⟩)]) (by omega) ((S.alloc (.cells [.int .i64 3,.int .i64 rs[i].len,.int .i64 rs[i].for_] false)).alloc (.cells [.func (.func 87) #[] #[.pointer (some ⟨S.next,0,none⟩)],.int .i64 rs[i].for_] false)) (by simp[h3])
        refine p3.push (a:=⟨rs[i],S.next⟩) B0b B0m (by rfl) (by simp[kpF,h3]<;>rfl) (by omega) (by omega) fun v' S3 ρ' w1 w2 w3=>?_
        obtain⟨q1,q2⟩:=hC.keep hlt hr (by omega) p1 p2 w1 w2 w3
        try simp -implicitDefEqProofs (disch:=first|exact dsc|fail)[q1,w1.in_.data]
        have:=ih hlt _ _ _ _ q2;simpa using this
       ·have h4:rs[i].kind=4:=by
         simp only[A54]at hr;split at hr
         ·omega
         ·split at hr
          ·omega
          ·cases hr
        have hch:∀x y z,Chg S (((S.put (s.next+1) x).alloc y).alloc z) (fun b=>b=s.next+1):=fun x y z=>⟨by simp;omega,fun {b} hb hn=>by rw[St.alloc_old (by simp;omega),St.alloc_old (by simpa using hb),St.put_other hn]⟩
        have hat:∀x y z,(((S.put (s.next+1) x).alloc y).alloc z).heap (s.next+1)=some x:=fun x y z=>by rw[St.alloc_old (by simp;omega),St.alloc_old (by simp;omega),St.put_self]
        have hch2:∀y z,Chg S ((S.alloc y).alloc z) (fun b=>b=s.next+1):=fun y z=>⟨by simp;omega,fun {b} hb hn=>by rw[St.alloc_old (by simp;omega),St.alloc_old hb]⟩
        have hat2:∀y z,((S.alloc y).alloc z).heap (s.next+1)=some (.cells [sl,.int .i64 A.never,.bool A.nevers] false):=fun y z=>by rw[St.alloc_old (by simp;omega),St.alloc_old (by omega)];exact hC1
        by_cases h5:A.nevers=true
        ·by_cases h6:rs[i].for_<A.never
         ·try simp -implicitDefEqProofs (disch:=first|exact dsc|fail)[h1,h2,h3,h5,h6,hC1]
          rw[show((i:Int)+1)=((i+1:Nat):Int) by omega]
          exact ih hlt _ _ _ _ (hC.never hlt hr h4 (hch _ _ _) (hat _ _ _) rfl hf)
         ·try simp -implicitDefEqProofs (disch:=first|exact dsc|fail)[h1,h2,h3,h5,h6,hC1]
          rw[show((i:Int)+1)=((i+1:Nat):Int) by omega]
          exact ih hlt _ _ _ _ (hC.never hlt hr h4 (hch2 _ _) (hat2 _ _) h5 (hC.nev h5))
        ·try simp -implicitDefEqProofs (disch:=first|exact dsc|fail)[h1,h2,h3,h5,hC1]
         rw[show((i:Int)+1)=((i+1:Nat):Int) by omega]
         exact ih hlt _ _ _ _ (hC.never hlt hr h4 (hch _ _ _) (hat _ _ _) rfl hf)
    ·try simp -implicitDefEqProofs (disch:=first|exact dsc|fail)[hr,hC.res]
     exact A0a (hbad 3 _ (by decide) (fun h=>hr (h.2 _ (List.getElem_mem hlt))) ((hC.old.put (Nat.le_refl _)).alloc))
   ·try simp -implicitDefEqProofs (disch:=first|exact dsc|fail)[hlt,hC.aut,hC.res]
    have hie:i=rs.length:=by omega
    have h16':rs.length<=16:=by omega
    obtain⟨a1,a2⟩:=hC.auto (o:=o) h16';have f2:Fd s (S.put s.next (.cells [sl,.int .i64 A.never,.bool A.nevers] false)) o (tint o s.next 0) (fun _=>False):=(hC.old.put (Nat.le_refl _)).tint
    have hr:=hC.rules;have hn:=hC.nevers;have hri:=hC.right;rw[hie,List.take_length]at hr hn hri;refine A0a (hok sl A _ (tint o s.next 0) h16' hri ⟨?_,fun k hk hk1=>?_,a1.ok,a1.len,a1.nev⟩ hr hn f2)
    ·exact⟨ρ,hC.own.same (by simp) (fun r hr=>St.put_other (by have:=hC.fresh r hr;omega)),fun r hr=>A0d (by have:=hC.fresh r hr;omega)⟩
    ·have hb:=hC.box k hk;exact⟨⟨by simpa using hb.1.lt,(St.put_other (by omega)).trans hb.1.eq⟩,A0d (by omega)⟩
  ·exact⟨by simp,by simp,(St.alloc_old (by simp)).trans St.alloc_self,St.alloc_self,.nil,fun r h=>(by cases h),fun k h=>(by cases h),by simp,by simp,by simp,by simp⟩
end
end Go.Zz
