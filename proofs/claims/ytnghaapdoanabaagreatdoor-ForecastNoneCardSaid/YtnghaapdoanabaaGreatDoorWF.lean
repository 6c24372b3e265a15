import Derived.Test.YtnghaapdoanabaaGreatDoorWD
set_option linter.all false
set_option maxRecDepth 20000
set_option linter.all false
namespace Go.Zz
open Go
variable {X : Y0}
structure RuleM where
 kind:Int
 len:Int
 for_:Int
def ruleE:Enc RuleM 3:=⟨fun x=>[.int .i64 x.kind,.int .i64 x.len,.int .i64 x.for_],fun _=>rfl⟩
@[simp]theorem ruleE_cells(x:RuleM):ruleE.cells x=[.int .i64 x.kind,.int .i64 x.len,.int .i64 x.for_]:=rfl
structure Kp where
 r:RuleM
 box:Nat
def kpF(k:Kp):Value:=if k.r.kind=1 then .func (.func 84) #[] #[]else if k.r.kind=2 then .func (.func 85) #[] #[.pointer (some ⟨k.box,0,none⟩)]else .func (.func 87) #[] #[.pointer (some ⟨k.box,0,none⟩)]
def kpE:Enc Kp 2:=⟨fun k=>[kpF k,.int .i64 k.r.for_],fun _=>rfl⟩
@[simp]theorem kpE_cells(k:Kp):kpE.cells k=[kpF k,.int .i64 k.r.for_]:=rfl
structure AutoM where
 l:List Kp
 never:Int
 nevers:Bool
def rSpan(n:Int):Bool:=decide (1<=n)&&decide (n<=1073741824)
def rRight(r:RuleM):Bool:=if r.kind=1\/r.kind=4 then decide (r.len=0)&&rSpan r.for_ else if r.kind=2\/r.kind=3 then rSpan r.len&&rSpan r.for_ else false
def autoV(sl:Value)(A:AutoM):Value:=.agg #[sl,.int .i64 A.never,.bool A.nevers]
structure AutoC(s:St)(o:Nat->Nat)(sl:Value)(A:AutoM):Prop where
 own:∃ρ,kpE.Own s sl ρ A.l/\∀r,ρ=some r->o r=0
 box:∀k∈A.l,k.r.kind≠1->Blk s k.box (ruleE.cells k.r)/\o k.box=0
 ok:∀k∈A.l,rRight k.r=true/\k.r.kind≠4
 len:A.l.length<=16
 nev:A.nevers=true->1<=A.never/\A.never<=1073741824
theorem AutoC.fd{s S:St}{o o':Nat->Nat}{d:Nat->Prop}{sl:Value}{A:AutoM}(h:AutoC s o sl A)(g:Fd s S o o' d)(hd:¬d 0):AutoC S o' sl A:=by
 obtain⟨ρ,h1,h2⟩:=h.own;have hl:∀r,ρ=some r->r<s.next:=fun r hr=>by subst hr;exact h1.lt
 exact⟨⟨ρ,h1.same g.chg.le (fun r hr=>g.chg.eq (hl r hr) (by rw[h2 r hr];exact hd)),fun r hr=>(g.col (hl r hr)).trans (h2 r hr)⟩,
  fun k hk hk1=>let ⟨a,b⟩:=h.box k hk hk1;⟨a.fd g (by rw[b];exact hd),(g.col a.lt).trans b⟩,h.ok,h.len,h.nev⟩
section
variable {s : St} {o : Nat → Nat} {sl : Value} {A : AutoM} {T : List Item} {t c : Nat} {num : Int} {Q : Post}
theorem rSpan_spec{n:Int}(hq:Q (.bool (rSpan n)) s):CC X 121 [.int .i64 n] Q s:=by
 refine f121xin rfl ?_;unfold rSpan at hq;by_cases h:1<=n
 ·try simp -implicitDefEqProofs (disch:=first|exact dsc|fail)[h]
  simpa[h]using hq
 ·try simp -implicitDefEqProofs (disch:=first|exact dsc|fail)[h]
  simpa[h]using hq
theorem rRight_spec{r:RuleM}(hq:Q (.bool (rRight r)) s):CC X 83 [.agg #[.int .i64 r.kind,.int .i64 r.len,.int .i64 r.for_]] Q s:=by
 refine f83xin rfl ?_;unfold rRight at hq;by_cases h1:r.kind=1\/r.kind=4
 ·rw[if_pos h1]at hq;by_cases h0:r.len=0
  ·rcases h1 with h|h
   ·try simp -implicitDefEqProofs (disch:=first|exact dsc|fail)[h,h0]
    refine rSpan_spec ?_
    try simp -implicitDefEqProofs (disch:=first|exact dsc|fail)[]
    exact kEnd_back (by simp) (.bool _) (by simpa[h0]using hq)
   ·try simp -implicitDefEqProofs (disch:=first|exact dsc|fail)[h,h0]
    refine rSpan_spec ?_
    try simp -implicitDefEqProofs (disch:=first|exact dsc|fail)[]
    exact kEnd_back (by simp) (.bool _) (by simpa[h0]using hq)
  ·rcases h1 with h|h
   ·try simp -implicitDefEqProofs (disch:=first|exact dsc|fail)[h,h0]
    exact kEnd_back (by simp) (.bool _) (by simpa[h0]using hq)
   ·try simp -implicitDefEqProofs (disch:=first|exact dsc|fail)[h,h0]
    exact kEnd_back (by simp) (.bool _) (by simpa[h0]using hq)
 ·have h1a:¬r.kind=1:=by omega
  have h1b:¬r.kind=4:=by omega
  rw[if_neg h1]at hq;by_cases h2:r.kind=2\/r.kind=3
  ·rw[if_pos h2]at hq;rcases h2 with h|h
   ·try simp -implicitDefEqProofs (disch:=first|exact dsc|fail)[h]
    refine rSpan_spec ?_;by_cases h0:rSpan r.len=true
    ·try simp -implicitDefEqProofs (disch:=first|exact dsc|fail)[h0]
     refine rSpan_spec ?_
     try simp -implicitDefEqProofs (disch:=first|exact dsc|fail)[h0]
     exact kEnd_back (by simp) (.bool _) (by simpa[h0]using hq)
    ·try simp -implicitDefEqProofs (disch:=first|exact dsc|fail)[h0]
     exact kEnd_back (by simp) (.bool _) (by simpa[h0]using hq)
   ·try simp -implicitDefEqProofs (disch:=first|exact dsc|fail)[h]
    refine rSpan_spec ?_;by_cases h0:rSpan r.len=true
    ·try simp -implicitDefEqProofs (disch:=first|exact dsc|fail)[h0]
     refine rSpan_spec ?_
     try simp -implicitDefEqProofs (disch:=first|exact dsc|fail)[h0]
     exact kEnd_back (by simp) (.bool _) (by simpa[h0]using hq)
    ·try simp -implicitDefEqProofs (disch:=first|exact dsc|fail)[h0]
     exact kEnd_back (by simp) (.bool _) (by simpa[h0]using hq)
  ·rw[if_neg h2]at hq;have h2a:¬r.kind=2:=by omega
   have h2b:¬r.kind=3:=by omega
   try simp -implicitDefEqProofs (disch:=first|exact dsc|fail)[h1a,h1b,h2a,h2b]
   exact kEnd_back (by simp) (.bool _) hq
def kKeeps(T:List Item)(num:Int)(k:Kp):Bool:=if k.r.kind=1 then true else if k.r.kind=2 then tCloses T num k.r.len else tQuiet T num k.r.len
def kSpan(A:AutoM)(k:Kp):Int:=if A.nevers&&decide (A.never<k.r.for_)then A.never else k.r.for_
def aMins(T:List Item)(A:AutoM)(num:Int):List Int:=match tMin T num with
 | none=>[]
 | some w=>(A.l.filter (kKeeps T num)).map fun k=>w+kSpan A k
theorem kKeeps_spec{k:Kp}{ρ:Option Nat}(hT:Tab s t ρ T)(hk:k.r.kind≠1->Blk s k.box (ruleE.cells k.r))(hr:rRight k.r=true)(hq:Q (.bool (kKeeps T num k)) s) :
  callF P (CC X) (kpF k) [.pointer (some ⟨t,0,none⟩),.int .u64 num] Q s:=by
 unfold kpF;unfold kKeeps at hq;by_cases h1:k.r.kind=1
 ·rw[if_pos h1]at hq ⊢
  try simp -implicitDefEqProofs (disch:=first|exact dsc|fail)[]
  refine f84xin rfl ?_
  try simp -implicitDefEqProofs (disch:=first|exact dsc|fail)[]
  exact hq
 ·have hb:=hk h1;rw[if_neg h1]at hq ⊢;have hlen:k.r.len<=1073741824:=by
   simp only[rRight]at hr;split at hr
   ·simp at hr;omega
   ·split at hr
    ·simp[rSpan]at hr;omega
    ·cases hr
  by_cases h2:k.r.kind=2
  ·rw[if_pos h2]at hq ⊢
   try simp -implicitDefEqProofs (disch:=first|exact dsc|fail)[]
   refine f85xin rfl ?_
   try simp -implicitDefEqProofs (disch:=first|exact dsc|fail)[hb.eq]
   refine tCloses_spec hT hlen ?_
   try simp -implicitDefEqProofs (disch:=first|exact dsc|fail)[]
   exact hq
  ·rw[if_neg h2]at hq ⊢
   try simp -implicitDefEqProofs (disch:=first|exact dsc|fail)[]
   refine f87xin rfl ?_
   try simp -implicitDefEqProofs (disch:=first|exact dsc|fail)[hb.eq]
   refine tQuiet_spec hT ?_
   try simp -implicitDefEqProofs (disch:=first|exact dsc|fail)[]
   exact hq
theorem kSpan_rng{k:Kp}(h:AutoC s o sl A)(hk:k∈A.l):1<=kSpan A k/\kSpan A k<=1073741824:=by
 have h1:=(h.ok k hk).1;have h2:1<=k.r.for_/\k.r.for_<=1073741824:=by
  simp only[rRight]at h1;split at h1
  ·simp[rSpan]at h1;omega
  ·split at h1
   ·simp[rSpan]at h1;omega
   ·cases h1
 unfold kSpan;split
 ·rename_i h3;simp at h3;exact h.nev h3.1
 ·exact h2
theorem aMins_spec(h:AutoC s o sl A)(hT:TabC s o c t T)(hc:c≠0)(hq:∀v S xs,(intE .i64).New s S v xs->xs.length<=16->xs.Pairwise (·<·)->(∀n,n∈xs↔n∈aMins T A num)->Q v S) :
  CC X 78 [autoV sl A,.pointer (some ⟨t,0,none⟩),.int .u64 num] Q s:=by
 refine f78xin rfl ?_;obtain⟨ρk,hk,hkc⟩:=h.own;have hd:=hk.in_.data
 try simp -implicitDefEqProofs (disch:=first|exact dsc|fail)[autoV,hd]
 obtain⟨ρ,hTab,ht1,ht2⟩:=hT;have o1:Old s (s.alloc (.cells [sl,.int .i64 A.never,.bool A.nevers] false)):=by simp
 refine tMin_spec (hTab.old o1) ?_;cases hm:tMin T num with
 | none=>
  try simp -implicitDefEqProofs (disch:=first|exact dsc|fail)[hm]
  exact kEnd_keep (hq _ _ [] (.nil o1) (by simp) .nil (fun n=>by simp[aMins,hm]))
 | some w=>
  have hw:=tMin_ge hTab.ok hm
  try simp -implicitDefEqProofs (disch:=first|exact dsc|fail)[hm,hk.in_.len y_P_underlying_74]
  refine f78xloop0 fun I hI=>?_;generalize hs1:s.alloc (.cells [sl,.int .i64 A.never,.bool A.nevers] false)=s1 at *;have n1:s1.next=s.next+1:=by subst hs1;simp
  have b1:s1.heap s.next=some (.cells [sl,.int .i64 A.never,.bool A.nevers] false):=by subst hs1;simp
  have hlen:=h.len;refine up (n:=A.l.length) (M:=fun i=>∀S out ρo xs,Old s1 S->(intE .i64).Own S out ρo xs->(∀b,ρo=some b->s1.next<=b)->xs=((A.l.take i).filter (kKeeps T num)).map (fun k=>w+kSpan A k)->I (.pointer (some ⟨t,0,none⟩)) (.int .u64 num) (.pointer (some ⟨s.next,0,none⟩)) (.int .i64 w) out sl (.int .i64 A.l.length) (.int .i64 i) S) (fun i hi ih S out ρo xs hS hO hρ hx=>?_) 0 (Nat.zero_le _) s1 _ none [] (.refl _) .nil (fun b h=>by cases h) (by simp)
  refine hI _ _ _ _ _ _ _ _ _ ?_;by_cases hlt:i<A.l.length
  ·have hkS:=(hk.in_).old (o1.trans hS);have hmem:A.l[i]∈A.l:=List.getElem_mem hlt;have htk:A.l.take (i+1)=A.l.take i++[A.l[i]]:=(List.take_append_getElem hlt).symm;have hxl:xs.length<=16:=by rw[hx,List.length_map];exact Nat.le_trans (List.length_filter_le _ _) (by simp;omega)
   have hsp:=kSpan_rng h hmem;have b2:S.heap s.next=some (.cells [sl,.int .i64 A.never,.bool A.nevers] false):=(hS.eq (by omega)).trans b1
   have hSn:=hS.le;have hdk:data (kpF A.l[i])=true/\(kpF A.l[i]).cells=#[kpF A.l[i]]:=by unfold kpF;split<;>(try split)<;>exact⟨rfl,rfl⟩
   have hS2:Old s1 (S.alloc (.cells [kpF A.l[i],.int .i64 A.l[i].r.for_] false)):=hS.alloc
   try simp -implicitDefEqProofs (disch:=first|exact dsc|fail)[hlt,hkS.idx,hkS.agg,hdk]
   refine kKeeps_spec (k:=A.l[i]) (hTab.old (o1.trans hS2)) (fun hk1=>(h.box _ hmem hk1).1.old (o1.trans hS2)) (h.ok _ hmem).1 ?_;by_cases hkp:kKeeps T num A.l[i]=true
   ·have hO2:(intE .i64).Own (S.alloc (.cells [kpF A.l[i],.int .i64 A.l[i].r.for_] false)) out ρo xs:=hO.same (by simp) (fun r hr=>St.alloc_old (by subst hr;exact hO.lt))
    have hgo:∀v' S3 ρ',(intE .i64).Own S3 v' ρ' (xs++[w+kSpan A A.l[i]])->Chg (S.alloc (.cells [kpF A.l[i],.int .i64 A.l[i].r.for_] false)) S3 (Row ρo)->(∀b,ρ'=some b->ρo=some b\/(S.alloc (.cells [kpF A.l[i],.int .i64 A.l[i].r.for_] false)).next<=b)->I (.pointer (some ⟨t,0,none⟩)) (.int .u64 num) (.pointer (some ⟨s.next,0,none⟩)) (.int .i64 w) v' sl (.int .i64 A.l.length) (.int .i64 (i+1)) S3:=by
     intro v' S3 ρ' w1 w2 w3;have:=ih hlt S3 v' ρ' _ (hS2.trans_chg w2 (fun b hb e=>by have:=hρ b e;omega)) w1 (fun b hb=>(w3 b hb).elim (fun e=>hρ b e) (fun e=>by simp at e;omega)) (by rw[htk,List.filter_append,List.map_append,<-hx];simp[hkp])
     simpa using this
    unfold kSpan at hgo hsp;by_cases hnv:A.nevers=true
    ·by_cases hlt2:A.never<A.l[i].r.for_
     ·simp only[hnv,hlt2,decide_true,Bool.and_self,if_true]at hgo hsp
      try simp -implicitDefEqProofs (disch:=first|exact dsc|fail)[hkp,hnv,hlt2,b2]
      refine hO2.push (a:=w+A.never) y_tSlice_28 y_tZeros_28 (by rfl) (by rfl) (by omega) (by omega) fun v' S3 ρ' w1 w2 w3=>?_
      try simp -implicitDefEqProofs (disch:=first|exact dsc|fail)[]
      exact hgo v' S3 ρ' w1 w2 w3
     ·simp only[hnv,hlt2,decide_false,Bool.and_false,Bool.false_eq_true,if_false]at hgo hsp
      try simp -implicitDefEqProofs (disch:=first|exact dsc|fail)[hkp,hnv,hlt2,b2]
      refine hO2.push (a:=w+A.l[i].r.for_) y_tSlice_28 y_tZeros_28 (by rfl) (by rfl) (by omega) (by omega) fun v' S3 ρ' w1 w2 w3=>?_
      try simp -implicitDefEqProofs (disch:=first|exact dsc|fail)[]
      exact hgo v' S3 ρ' w1 w2 w3
    ·simp only[hnv,Bool.false_and,Bool.false_eq_true,if_false]at hgo hsp
     try simp -implicitDefEqProofs (disch:=first|exact dsc|fail)[hkp,hnv,b2]
     refine hO2.push (a:=w+A.l[i].r.for_) y_tSlice_28 y_tZeros_28 (by rfl) (by rfl) (by omega) (by omega) fun v' S3 ρ' w1 w2 w3=>?_
     try simp -implicitDefEqProofs (disch:=first|exact dsc|fail)[]
     exact hgo v' S3 ρ' w1 w2 w3
   ·try simp -implicitDefEqProofs (disch:=first|exact dsc|fail)[hkp]
    have:=ih hlt (S.alloc (.cells [kpF A.l[i],.int .i64 A.l[i].r.for_] false)) out ρo xs hS2 (hO.same (by simp) (fun r hr=>St.alloc_old (by subst hr;exact hO.lt))) hρ (by rw[htk,List.filter_append,List.map_append,<-hx];simp[hkp])
    simpa using this
  ·try simp -implicitDefEqProofs (disch:=first|exact dsc|fail)[hlt]
   have hie:i=A.l.length:=by omega
   have hxl:xs.length<=16:=by rw[hx,List.length_map];exact Nat.le_trans (List.length_filter_le _ _) (by simp;omega)
   refine Sort_i hO (by omega) fun S3 ys k1 k2 k3 k4=>?_
   try simp -implicitDefEqProofs (disch:=first|exact dsc|fail)[]
   refine Compact_i k1 (by have:=k3.length_eq;omega) fun v' S4 j1 j2=>?_
   try simp -implicitDefEqProofs (disch:=first|exact dsc|fail)[]
   have o3:Old s1 S3:=hS.trans_chg k2 (fun b hb e=>by have:=hρ b e;omega)
   have o4:Old s S4:=o1.trans (o3.trans_chg j2 (fun b hb e=>by have:=hρ b e;omega))
   refine kEnd_keep (hq v' S4 _ ⟨ρo,j1,o4,fun b hb=>by have:=hρ b hb;omega⟩ (by have:=dd_length ys;have:=k3.length_eq;omega) (dd_sorted k4) (fun n=>?_))
   rw[dd_mem,k3.mem_iff,hx,hie,List.take_length];simp[aMins,hm]
end
section
variable {s : St} {o : Nat → Nat} {sl : Value} {A : AutoM} {T : List Item} {t c : Nat} {num : Int} {Q : Post}
def aStays(T:List Item)(A:AutoM)(num now:Int):Bool:=(tMin T num).isSome&&(decide (now<0)||(aMins T A num).any fun m=>decide (now<m))
theorem aMins_pos(h:AutoC s o sl A)(hT:TOk T){m:Int}(hm:m∈aMins T A num):1<=m:=by
 unfold aMins at hm;cases hw:tMin T num with
 | none=>rw[hw]at hm;cases hm
 | some w=>
  rw[hw]at hm;obtain⟨k,hk,rfl⟩:=List.mem_map.1 hm;have:=kSpan_rng h (List.mem_filter.1 hk).1;have:=tMin_ge hT hw;omega
theorem aTill_spec(h:AutoC s o sl A)(hT:TabC s o c t T)(hc:c≠0)(hq:∀n:Int,(∀now:Int,(decide (now<n))=(decide (now<0)||(aMins T A num).any fun m=>decide (now<m)))->Q (.int .i64 n) s) :
  CC X 162 [autoV sl A,.pointer (some ⟨t,0,none⟩),.int .u64 num] Q s:=by
 refine f162xin rfl ?_;obtain⟨ρk,hk,hkc⟩:=h.own;have hd:=hk.in_.data;have hTab:=hT;obtain⟨ρ,hT1,_,_⟩:=hTab;have o1:Old s (s.alloc (.cells [sl,.int .i64 A.never,.bool A.nevers] false)):=by simp
 have hA:=h.fd (o1.fd (c:=fun _=>False)) (fun h=>h);have hT2:=hT.fd (o1.fd (c:=fun _=>False)) (fun h=>h)
 try simp -implicitDefEqProofs (disch:=first|exact dsc|fail)[autoV,hd]
 refine aMins_spec hA hT2 hc fun v S xs hn hl hs hx=>?_;have hI:=hn.in_;have hlS:=hI.len (P:=P) (s':=S) y_P_underlying_28;by_cases h0:xs=[]
 ·subst h0
  try simp -implicitDefEqProofs (disch:=first|exact dsc|fail)[hlS]
  refine kEnd_back (o1.trans hn.old_) (.int _ _) (hq 0 fun now=>?_);have:(aMins T A num).any (fun m=>decide (now<m))=false:=List.any_eq_false.2 fun m hm=>absurd ((hx m).2 hm) (by simp)
  rw[this];simp
 ·obtain⟨xs',y,rfl⟩:∃T' y,xs=T'++[y]:=⟨xs.dropLast,xs.getLast h0,(List.dropLast_concat_getLast _).symm⟩;have e1:(((xs'++[y]).length:Nat):Int)-1=(xs'.length:Nat):=by simp
  have e0:¬(((xs'++[y]).length:Nat):Int)=0:=by simp;omega
  have e2:(xs'++[y])[xs'.length]'(by simp)=y:=by simp
  try simp -implicitDefEqProofs (disch:=first|exact dsc|fail)[hlS,e1,e0,hI.idx,hI.one,e2]
  refine kEnd_back (o1.trans hn.old_) (.int _ _) (hq y fun now=>?_);have hy:=(hx y).1 (by simp)
  have hp:=aMins_pos h hT1.ok hy;rw[Bool.eq_iff_iff];simp only[decide_eq_true_eq,Bool.or_eq_true,List.any_eq_true];constructor
  ·exact fun h=>.inr ⟨y,hy,h⟩
  ·rintro(h|⟨m,hm,h⟩)
   ·omega
   ·have:=(hx m).2 hm;rcases List.mem_append.1 this with e|e
    ·have:=(List.pairwise_append.1 hs).2.2 m e y (by simp);omega
    ·rw[List.mem_singleton.1 e]at h;exact h
theorem aStays_spec{now:Int}(h:AutoC s o sl A)(hT:TabC s o c t T)(hc:c≠0)(hq:Q (.bool (aStays T A num now)) s) :
  CC X 139 [autoV sl A,.pointer (some ⟨t,0,none⟩),.int .u64 num,.int .i64 now] Q s:=by
 refine f139xin rfl ?_;obtain⟨ρk,hk,hkc⟩:=h.own;have hd:=hk.in_.data;have hTab:=hT;obtain⟨ρ,hT1,_,_⟩:=hTab;have o1:Old s (s.alloc (.cells [sl,.int .i64 A.never,.bool A.nevers] false)):=by simp
 have hA:=h.fd (o1.fd (c:=fun _=>False)) (fun h=>h);have hT2:=hT.fd (o1.fd (c:=fun _=>False)) (fun h=>h)
 try simp -implicitDefEqProofs (disch:=first|exact dsc|fail)[autoV,hd]
 refine tMin_spec (hT1.old o1) ?_;unfold aStays at hq;cases hm:tMin T num with
 | none=>
  try simp -implicitDefEqProofs (disch:=first|exact dsc|fail)[hm]
  exact kEnd_back o1 (.bool _) (by simpa[hm]using hq)
 | some w=>
  try simp -implicitDefEqProofs (disch:=first|exact dsc|fail)[hm]
  refine aTill_spec hA hT2 hc fun n hn=>?_
  try simp -implicitDefEqProofs (disch:=first|exact dsc|fail)[]
  refine kEnd_back o1 (.bool _) ?_;rw[hm]at hq;rw[hn now];simpa using hq
end
structure CInv(s S:St)(rs:List RuleM)(i:Nat)(sl:Value)(ρ:Option Nat)(A:AutoM):Prop where
 old:Old s S
 le:s.next+2<=S.next
 res:S.heap s.next=some (.cells [.slice none 0 0,.int .i64 0,.bool false] false)
 aut:S.heap (s.next+1)=some (.cells [sl,.int .i64 A.never,.bool A.nevers] false)
 own:kpE.Own S sl ρ A.l
 fresh:∀r,ρ=some r->s.next+1<r
 box:∀k∈A.l,Blk S k.box (ruleE.cells k.r)/\s.next+1<k.box/\ρ≠some k.box
 rules:A.l.map (·.r)=(rs.take i).filter fun r=>!decide (r.kind=4)
 right:∀r∈rs.take i,rRight r=true
 nevers:A.nevers=(rs.take i).any fun r=>decide (r.kind=4)
 nev:A.nevers=true->1<=A.never/\A.never<=1073741824
section
variable {s S : St} {o : Nat → Nat} {v sl : Value} {ρ : Option Nat} {A : AutoM} {rs : List RuleM} {i : Nat} {Q : Post}
theorem rRight_for{r:RuleM}(h:rRight r=true):1<=r.for_/\r.for_<=1073741824:=by
 simp only[rRight]at h;split at h
 ·simp[rSpan]at h;omega
 ·split at h
  ·simp[rSpan]at h;omega
  ·cases h
theorem CInv.auto(h:CInv s S rs i sl ρ A)(hlen:rs.length<=16):AutoC S (tint o s.next 0) sl A/\Fd s S o (tint o s.next 0) (fun _=>False):=by
 refine⟨⟨⟨ρ,h.own,fun r hr=>tint_new (by have:=h.fresh r hr;omega)⟩,fun k hk _=>⟨(h.box k hk).1,tint_new (by have:=(h.box k hk).2.1;omega)⟩,fun k hk=>?_,?_,h.nev⟩,h.old.tint⟩
 ·have:k.r∈(rs.take i).filter fun r=>!decide (r.kind=4):=by rw[<-h.rules];exact List.mem_map.2 ⟨k,hk,rfl⟩
  obtain⟨h1,h2⟩:=List.mem_filter.1 this;exact⟨h.right _ h1,by simpa using h2⟩
 ·have:=congrArg List.length h.rules;rw[List.length_map]at this;rw[this];exact Nat.le_trans (List.length_filter_le _ _) (by simp;omega)
theorem CInv.keep{S1 S3:St}{v':Value}{ρ':Option Nat}(h:CInv s S rs i sl ρ A)(hlt:i<rs.length)(hr:rRight rs[i]=true)(h4:rs[i].kind≠4)(o1:Old S S1)(hb:Blk S1 S.next (ruleE.cells rs[i]))
  (w1:kpE.Own S3 v' ρ' (A.l++[⟨rs[i],S.next⟩])) (w2:Chg S1 S3 (Row ρ)) (w3:∀b,ρ'=some b->ρ=some b\/S1.next<=b) :
  S3.heap (s.next+1)=some (.cells [sl,.int .i64 A.never,.bool A.nevers] false)/\CInv s (S3.put (s.next+1) (.cells [v',.int .i64 A.never,.bool A.nevers] false)) rs (i+1) v' ρ' ⟨A.l++[⟨rs[i],S.next⟩],A.never,A.nevers⟩:=by
 have hSn:=h.le;have hρ:=h.fresh;have hρl:∀r,ρ=some r->r<S.next:=fun r hr=>by subst hr;exact h.own.lt
 have o13:∀{b},b<S.next->ρ≠some b->S3.heap b=S.heap b:=fun {b} hb1 hb2=>(w2.eq (Nat.lt_of_lt_of_le hb1 o1.le) hb2).trans (o1.eq hb1)
 have hbl:=hb.lt;have hle:=w2.le;have hle1:=o1.le;have h13:S3.heap (s.next+1)=some (.cells [sl,.int .i64 A.never,.bool A.nevers] false):=(o13 (by omega) (fun e=>by have:=hρ _ e;omega)).trans h.aut
 have htk:rs.take (i+1)=rs.take i++[rs[i]]:=(List.take_append_getElem hlt).symm;have hρ':∀r,ρ'=some r->s.next+1<r:=fun r hr=>(w3 r hr).elim (hρ r) (fun e=>by omega)
 refine⟨h13,⟨⟨by simp;omega,fun {b} hb=>?_⟩,by simp;omega,?_,St.put_self,w1.same (by simp) (fun r hr=>St.put_other (by have:=hρ' r hr;omega)),hρ',fun k hk=>?_,?_,?_,?_,h.nev⟩⟩
 ·rw[St.put_other (by omega),o13 (by omega) (fun e=>by have:=hρ _ e;omega)];exact h.old.eq hb
 ·rw[St.put_other (by omega),o13 (by omega) (fun e=>by have:=hρ _ e;omega)];exact h.res
 ·rcases List.mem_append.1 hk with hk|hk
  ·obtain⟨g1,g2,g3⟩:=h.box k hk;refine⟨⟨by have:=g1.lt;simp;omega,?_⟩,g2,fun e=>?_⟩
   ·rw[St.put_other (by omega),o13 g1.lt g3];exact g1.eq
   ·rcases w3 _ e with e|e
    ·exact g3 e
    ·have:=g1.lt;omega
  ·rw[List.mem_singleton.1 hk];refine⟨⟨by simp only[St.put_next];omega,?_⟩,by show s.next+1<S.next;omega,fun e=>?_⟩
   ·show(S3.put (s.next+1) _).heap S.next=_
    rw[St.put_other (by omega),w2.eq hbl (fun e=>by have:=hρl _ e;omega)];exact hb.eq
   ·rcases w3 _ e with e|e
    ·exact absurd (show S.next<S.next from hρl _ e) (Nat.lt_irrefl _)
    ·have:S1.next<=S.next:=e
     omega
 ·rw[List.map_append,h.rules,htk,List.filter_append];simp[h4]
 ·intro r hr';rw[htk]at hr';rcases List.mem_append.1 hr' with e|e
  ·exact h.right r e
  ·rw[List.mem_singleton.1 e];exact hr
 ·show A.nevers=_;rw[h.nevers,htk,List.any_append];simp[h4]
theorem CInv.never{S1:St}{n:Int}{b:Bool}(h:CInv s S rs i sl ρ A)(hlt:i<rs.length)(hr:rRight rs[i]=true)(h4:rs[i].kind=4)(o1:Chg S S1 (fun b=>b=s.next+1))(ha:S1.heap (s.next+1)=some (.cells [sl,.int .i64 n,.bool b] false))(hb:b=true)(hn:1<=n/\n<=1073741824) :
  CInv s S1 rs (i+1) sl ρ ⟨A.l,n,b⟩:=by
 have hSn:=h.le;have hle:=o1.le;have htk:rs.take (i+1)=rs.take i++[rs[i]]:=(List.take_append_getElem hlt).symm;refine⟨⟨by omega,fun {b} hb=>(o1.eq (by omega) (by omega)).trans (h.old.eq hb)⟩,by omega,(o1.eq (by omega) (by omega)).trans h.res,ha,h.own.same (by omega) (fun r hr=>o1.eq (by subst hr;exact h.own.lt) (by have:=h.fresh r hr;omega)),h.fresh,fun k hk=>?_,?_,?_,?_,fun _=>hn⟩
 ·obtain⟨g1,g2,g3⟩:=h.box k hk;exact⟨g1.chg o1 (by omega),g2,g3⟩
 ·show A.l.map _=_;rw[h.rules,htk,List.filter_append];simp[h4]
 ·intro r hr';rw[htk]at hr';rcases List.mem_append.1 hr' with e|e
  ·exact h.right r e
  ·rw[List.mem_singleton.1 e];exact hr
 ·show b=_;rw[hb,htk,List.any_append];simp[h4]
theorem aCompile_spec(hv:ruleE.In s v rs)(hlen:rs.length<1000000)
  (hok:∀sl A S o',rs.length<=16->(∀r∈rs,rRight r=true)->AutoC S o' sl A->A.l.map (·.r)=rs.filter (fun r=>!decide (r.kind=4))->(A.nevers=rs.any fun r=>decide (r.kind=4))->Fd s S o o' (fun _=>False)->Q (.tuple #[autoV sl A,.int .i64 0]) S)
  (hbad:∀e S,e≠0->¬(rs.length<=16/\∀r∈rs,rRight r=true)->Old s S->Q (.tuple #[.agg #[.slice none 0 0,.int .i64 0,.bool false],.int .i64 e]) S):CC X 47 [v] Q s:=by
 refine f47xin rfl ?_
 try simp -implicitDefEqProofs (disch:=first|exact dsc|fail)[hv.len y_P_underlying_22]
 by_cases h16:(16:Int)<rs.length
 ·try simp -implicitDefEqProofs (disch:=first|exact dsc|fail)[h16]
  exact kEnd_keep (hbad 6 _ (by decide) (fun h=>by omega) (by simp))
 ·try simp -implicitDefEqProofs (disch:=first|exact dsc|fail)[h16,hv.len y_P_underlying_22]
  refine f47xloop0 fun I hI=>?_;refine up (n:=rs.length) (M:=fun i=>∀S sl ρ A,CInv s S rs i sl ρ A->I (.pointer (some ⟨s.next,0,none⟩)) (.int .i64 0) (.pointer (some ⟨s.next+1,0,none⟩)) v (.int .i64 rs.length) (.int .i64 i) S) (fun i hi ih S sl ρ A hC=>?_) 0 (Nat.zero_le _) _ (.slice none 0 0) none ⟨[],0,false⟩ ?_
  ·refine hI _ _ _ _ _ _ _ ?_;by_cases hlt:i<rs.length
   ·have hvS:=hv.old hC.old
    try simp -implicitDefEqProofs (disch:=first|exact dsc|fail)[hlt,hvS.idx,hvS.agg]
    refine rRight_spec ?_;have hSn:=hC.le;by_cases hr:rRight rs[i]=true
    ·have hC1:=hC.aut;have hf:=rRight_for hr;have hfv:∀n,data (fv n)=true/\(fv n).cells=#[fv n]:=fun _=>⟨rfl,rfl⟩;have hcl:∀f b,data (.func (.func f) #[] #[.pointer (some ⟨b,0,none⟩)])=true/\Value.cells (.func (.func f) #[] #[.pointer (some ⟨b,0,none⟩)])=#[.func (.func f) #[] #[.pointer (some ⟨b,0,none⟩)]]:=fun _ _=>⟨rfl,rfl⟩;have hA16:A.l.length<=16:=by
      have:=congrArg List.length hC.rules;rw[List.length_map]at this;rw[this];exact Nat.le_trans (List.length_filter_le _ _) (by simp;omega)
     have hkc:∀x y:Value,(Value.agg #[x,y]).cells.toList=[x,y]:=fun _ _=>rfl;have hgo:∀f:Value,rs[i].kind≠4->∀S1,S1=(S.alloc (.cells (ruleE.cells rs[i]) false)).alloc (.cells [f,.int .i64 rs[i].for_] false)->Old S S1/\Blk S1 S.next (ruleE.cells rs[i])/\kpE.Own S1 sl ρ A.l/\S1.next=S.next+2:=fun f h4 S1 e=>by
      subst e;exact⟨((Old.refl S).alloc).alloc,⟨by simp;omega,(St.alloc_old (by simp)).trans St.alloc_self⟩,hC.own.same (by simp;omega) (fun r hr=>by have hl:r<S.next:=(by subst hr;exact hC.own.lt);rw[St.alloc_old (by simp;omega),St.alloc_old hl]),by simp⟩
     try simp -implicitDefEqProofs (disch:=first|exact dsc|fail)[hr]
     by_cases h1:rs[i].kind=1
     ·try simp -implicitDefEqProofs (disch:=first|exact dsc|fail)[h1,hC1,hfv]
      obtain⟨p1,p2,p3,p4⟩:=hgo (fv 84) (by omega) ((S.alloc (.cells [.int .i64 1,.int .i64 rs[i].len,.int .i64 rs[i].for_] false)).alloc (.cells [fv 84,.int .i64 rs[i].for_] false)) (by simp[h1])
      refine p3.push (a:=⟨rs[i],S.next⟩) y_tSlice_74 y_tZeros_74 (by rfl) (by simp[kpF,h1]<;>rfl) (by omega) (by omega) fun v' S3 ρ' w1 w2 w3=>?_
      obtain⟨q1,q2⟩:=hC.keep hlt hr (by omega) p1 p2 w1 w2 w3
      try simp -implicitDefEqProofs (disch:=first|exact dsc|fail)[q1,w1.in_.data]
      have:=ih hlt _ _ _ _ q2;simpa using this
     ·by_cases h2:rs[i].kind=2
      ·try simp -implicitDefEqProofs (disch:=first|exact dsc|fail)[h2,hC1,hcl,mkFn,Value.oneCell']
       obtain⟨p1,p2,p3,p4⟩:=hgo (.func (.func 85) #[] #[.pointer (some ⟨S.next,0,none⟩)]) (by omega) ((S.alloc (.cells [.int .i64 2,.int .i64 rs[i].len,.int .i64 rs[i].for_] false)).alloc (.cells [.func (.func 85) #[] #[.pointer (some ⟨S.next,0,none⟩)],.int .i64 rs[i].for_] false)) (by simp[h2])
       refine p3.push (a:=⟨rs[i],S.next⟩) y_tSlice_74 y_tZeros_74 (by rfl) (by simp[kpF,h2]<;>rfl) (by omega) (by omega) fun v' S3 ρ' w1 w2 w3=>?_
       obtain⟨q1,q2⟩:=hC.keep hlt hr (by omega) p1 p2 w1 w2 w3
       try simp -implicitDefEqProofs (disch:=first|exact dsc|fail)[q1,w1.in_.data]
       have:=ih hlt _ _ _ _ q2;simpa using this
      ·by_cases h3:rs[i].kind=3
       ·try simp -implicitDefEqProofs (disch:=first|exact dsc|fail)[h3,hC1,hcl,mkFn,Value.oneCell']
        obtain⟨p1,p2,p3,p4⟩:=hgo (.func (.func 87) #[] #[.pointer (some ⟨S.next,0,none⟩)]) (by omega) ((S.alloc (.cells [.int .i64 3,.int .i64 rs[i].len,.int .i64 rs[i].for_] false)).alloc (.cells [.func (.func 87) #[] #[.pointer (some ⟨S.next,0,none⟩)],.int .i64 rs[i].for_] false)) (by simp[h3])
        refine p3.push (a:=⟨rs[i],S.next⟩) y_tSlice_74 y_tZeros_74 (by rfl) (by simp[kpF,h3]<;>rfl) (by omega) (by omega) fun v' S3 ρ' w1 w2 w3=>?_
        obtain⟨q1,q2⟩:=hC.keep hlt hr (by omega) p1 p2 w1 w2 w3
        try simp -implicitDefEqProofs (disch:=first|exact dsc|fail)[q1,w1.in_.data]
        have:=ih hlt _ _ _ _ q2;simpa using this
       ·have h4:rs[i].kind=4:=by
         simp only[rRight]at hr;split at hr
         ·omega
         ·split at hr
          ·omega
          ·cases hr
        have hch:∀x y z,Chg S (((S.put (s.next+1) x).alloc y).alloc z) (fun b=>b=s.next+1):=fun x y z=>⟨by simp;omega,fun {b} hb hn=>by rw[St.alloc_old (by simp;omega),St.alloc_old (by simpa using hb),St.put_other hn]⟩
        have hat:∀x y z,(((S.put (s.next+1) x).alloc y).alloc z).heap (s.next+1)=some x:=fun x y z=>by rw[St.alloc_old (by simp;omega),St.alloc_old (by simp;omega),St.put_self]
        have hch2:∀y z,Chg S ((S.alloc y).alloc z) (fun b=>b=s.next+1):=fun y z=>⟨by simp;omega,fun {b} hb hn=>by rw[St.alloc_old (by simp;omega),St.alloc_old hb]⟩
        have hat2:∀y z,((S.alloc y).alloc z).heap (s.next+1)=some (.cells [sl,.int .i64 A.never,.bool A.nevers] false):=fun y z=>by rw[St.alloc_old (by simp;omega),St.alloc_old (by omega)];exact hC1
        by_cases h5:A.nevers=true
        ·by_cases h6:rs[i].for_<A.never
         ·try simp -implicitDefEqProofs (disch:=first|exact dsc|fail)[h1,h2,h3,h5,h6,hC1]
          rw[show((i:Int)+1)=((i+1:Nat):Int) by omega]
          exact ih hlt _ _ _ _ (hC.never hlt hr h4 (hch _ _ _) (hat _ _ _) rfl hf)
         ·try simp -implicitDefEqProofs (disch:=first|exact dsc|fail)[h1,h2,h3,h5,h6,hC1]
          rw[show((i:Int)+1)=((i+1:Nat):Int) by omega]
          exact ih hlt _ _ _ _ (hC.never hlt hr h4 (hch2 _ _) (hat2 _ _) h5 (hC.nev h5))
        ·try simp -implicitDefEqProofs (disch:=first|exact dsc|fail)[h1,h2,h3,h5,hC1]
         rw[show((i:Int)+1)=((i+1:Nat):Int) by omega]
         exact ih hlt _ _ _ _ (hC.never hlt hr h4 (hch _ _ _) (hat _ _ _) rfl hf)
    ·try simp -implicitDefEqProofs (disch:=first|exact dsc|fail)[hr,hC.res]
     exact kEnd_keep (hbad 3 _ (by decide) (fun h=>hr (h.2 _ (List.getElem_mem hlt))) ((hC.old.put (Nat.le_refl _)).alloc))
   ·try simp -implicitDefEqProofs (disch:=first|exact dsc|fail)[hlt,hC.aut,hC.res]
    have hie:i=rs.length:=by omega
    have h16':rs.length<=16:=by omega
    obtain⟨a1,a2⟩:=hC.auto (o:=o) h16';have f2:Fd s (S.put s.next (.cells [sl,.int .i64 A.never,.bool A.nevers] false)) o (tint o s.next 0) (fun _=>False):=(hC.old.put (Nat.le_refl _)).tint
    have hr:=hC.rules;have hn:=hC.nevers;have hri:=hC.right;rw[hie,List.take_length]at hr hn hri;refine kEnd_keep (hok sl A _ (tint o s.next 0) h16' hri ⟨?_,fun k hk hk1=>?_,a1.ok,a1.len,a1.nev⟩ hr hn f2)
    ·exact⟨ρ,hC.own.same (by simp) (fun r hr=>St.put_other (by have:=hC.fresh r hr;omega)),fun r hr=>tint_new (by have:=hC.fresh r hr;omega)⟩
    ·have hb:=hC.box k hk;exact⟨⟨by simpa using hb.1.lt,(St.put_other (by omega)).trans hb.1.eq⟩,tint_new (by omega)⟩
  ·exact⟨by simp,by simp,(St.alloc_old (by simp)).trans St.alloc_self,St.alloc_self,.nil,fun r h=>(by cases h),fun k h=>(by cases h),by simp,by simp,by simp,by simp⟩
end
end Go.Zz
set_option maxRecDepth 20000
set_option linter.all false
namespace Go.Zz
open Go
variable {X : Y0}
structure LawM where
 T:List Item
 A:AutoM
 L:List PutM
 F:List Twig
def lawCells(t b f:Nat)(sl:Value)(A:AutoM):List Value:=[.pointer (some ⟨t,0,none⟩),sl,.int .i64 A.never,.bool A.nevers,.pointer (some ⟨b,0,none⟩),.pointer (some ⟨f,0,none⟩)]
def lawV(t b f:Nat)(sl:Value)(A:AutoM):Value:=.agg #[.pointer (some ⟨t,0,none⟩),sl,.int .i64 A.never,.bool A.nevers,.pointer (some ⟨b,0,none⟩),.pointer (some ⟨f,0,none⟩)]
structure LawC(s:St)(o:Nat->Nat)(c t b f:Nat)(sl:Value)(M:LawM):Prop where
 tab:TabC s o (c+1) t M.T
 auto:AutoC s o sl M.A
 book:BookC s o (c+2) b M.L
 forest:ForC s o (c+3) f M.F
theorem LawC.fd{s S:St}{o o':Nat->Nat}{d:Nat->Prop}{c t b f:Nat}{sl:Value}{M:LawM}(h:LawC s o c t b f sl M)(g:Fd s S o o' d)(h0:¬d 0)(h1:¬d (c+1))(h2:¬d (c+2))(h3:¬d (c+3)):LawC S o' c t b f sl M:=
 ⟨h.tab.fd g h1,h.auto.fd g h0,h.book.fd g h2,h.forest.fd g h3⟩
theorem LawC.old{s S:St}{o:Nat->Nat}{c t b f:Nat}{sl:Value}{M:LawM}(h:LawC s o c t b f sl M)(g:Old s S):LawC S o c t b f sl M:=
 h.fd (g.fd (c:=fun _=>False)) (fun h=>h) (fun h=>h) (fun h=>h) (fun h=>h)
def pHeld(L:List PutM)(num min now:Int):Bool:=L.any fun p=>overP min now p&&decide (num<p.num)
def fBaseB(F:List Twig)(n:Int):Bool:=(List.range 16).any fun(i:Nat)=>decide (i≠0)&&fAlive F i&&decide ((twAt F i).base=n)
theorem fBaseB_iff{F:List Twig}{n:Int}:fBaseB F n=true↔fBase F n:=by
 simp only[fBaseB,fBase,List.any_eq_true,List.mem_range,Bool.and_eq_true,decide_eq_true_eq];exact⟨fun⟨i,h,⟨a,b⟩,c⟩=>⟨i,a,h,b,c⟩,fun⟨i,a,h,b,c⟩=>⟨i,h,⟨a,b⟩,c⟩⟩
def pHas(M:LawM)(num now:Int):Bool:=match tMin M.T num with
 | none=>false
 | some w=>!tOut M.T num&&(decide (tLast M.T=some num)||(aStays M.T M.A num now||pHeld M.L num w now||fBaseB M.F num))
section
variable {s : St} {o : Nat → Nat} {c t b f : Nat} {sl : Value} {M : LawM} {num min now : Int} {Q : Post}
theorem pHeld_spec(h:LawC s o c t b f sl M)(hq:Q (.bool (pHeld M.L num min now)) s):CC X 140 [lawV t b f sl M.A,.int .u64 num,.int .i64 min,.int .i64 now] Q s:=by
 refine f140xin rfl ?_;obtain⟨ρk,hk,_⟩:=h.auto.own;have hd:=hk.in_.data
 try simp -implicitDefEqProofs (disch:=first|exact dsc|fail)[lawV,hd,mkFn,Value.oneCell']
 have o1:Old s ((s.alloc (.cells (lawCells t b f sl M.A) false)).alloc (.cells [.int .u64 num] false)):=((Old.refl s).alloc).alloc;refine bOver_spec (h.book.fd (o1.fd (c:=fun _=>False)) (fun h=>h)) fun v S hn=>?_;have hI:=hn.in_;have hlen:M.L.length<=64:=let ⟨_,_,_,_,_,g,_⟩:=h.book;g;have b2:S.heap (s.next+1)=some (.cells [.int .u64 num] false):=(hn.old_.eq (by simp)).trans St.alloc_self
 have hl:=hn.old_.le;simp only[St.alloc_next]at hl
 try simp -implicitDefEqProofs (disch:=first|exact dsc|fail)[mkFn,Value.oneCell']
 refine ContainsFunc_put (c:=fun p=>decide (num<p.num)) hI (Nat.lt_of_le_of_lt (List.length_filter_le _ _) (by omega)) (fun x hx Q hQ=>?_) ?_
 ·try simp -implicitDefEqProofs (disch:=first|exact dsc|fail)[]
  refine f165xin rfl ?_
  try simp -implicitDefEqProofs (disch:=first|exact dsc|fail)[b2]
  exact kEnd_back (by simp) (.bool _) hQ
 ·try simp -implicitDefEqProofs (disch:=first|exact dsc|fail)[]
  exact kEnd_back (o1.trans hn.old_) (.bool _) hq
theorem pHas_spec(h:LawC s o c t b f sl M)(hq:Q (.bool (pHas M num now)) s):CC X 101 [lawV t b f sl M.A,.int .u64 num,.int .i64 now] Q s:=by
 refine f101xin rfl ?_;obtain⟨ρk,hk,_⟩:=h.auto.own;have hd:=hk.in_.data;have o1:Old s (s.alloc (.cells (lawCells t b f sl M.A) false)):=(Old.refl s).alloc;have h1:=h.old o1;obtain⟨ρ,hT,_,_⟩:=h1.tab;unfold pHas at hq
 try simp -implicitDefEqProofs (disch:=first|exact dsc|fail)[lawV,hd]
 refine tMin_spec hT ?_;cases hm:tMin M.T num with
 | none=>
  try simp -implicitDefEqProofs (disch:=first|exact dsc|fail)[hm]
  exact kEnd_back o1 (.bool _) (by simpa[hm]using hq)
 | some w=>
  simp only[hm]at hq
  try simp -implicitDefEqProofs (disch:=first|exact dsc|fail)[hm]
  refine tOut_spec hT ?_;by_cases g1:tOut M.T num=true
  ·try simp -implicitDefEqProofs (disch:=first|exact dsc|fail)[g1]
   exact kEnd_back o1 (.bool _) (by simpa[g1]using hq)
  ·try simp -implicitDefEqProofs (disch:=first|exact dsc|fail)[g1]
   refine tLast_spec hT ?_;by_cases g2:tLast M.T=some num
   ·try simp -implicitDefEqProofs (disch:=first|exact dsc|fail)[g2]
    exact kEnd_back o1 (.bool _) (by simpa[g1,g2]using hq)
   ·have g5:(tLast M.T).isSome=true->¬(tLast M.T).getD 0=num:=by
     intro a b;cases hl:tLast M.T with
     | none=>rw[hl]at a;cases a
     | some x=>rw[hl]at b g2;exact g2 (by simpa using b)
    simp only[g1,g2,decide_false,Bool.false_or,Bool.not_false,Bool.true_and]at hq;have b1:(s.alloc (.cells (lawCells t b f sl M.A) false)).heap s.next=some (.cells (lawCells t b f sl M.A) false):=St.alloc_self
    by_cases g4:(tLast M.T).isSome=true
    all_goals
     try simp -implicitDefEqProofs (disch:=first|exact dsc|fail)[g4,g5]
     refine aStays_spec h1.auto h1.tab (by omega) ?_
     by_cases k1:aStays M.T M.A num now=true
     ·try simp -implicitDefEqProofs (disch:=first|exact dsc|fail)[k1]
      exact kEnd_back o1 (.bool _) (by simpa[k1]using hq)
     ·try simp -implicitDefEqProofs (disch:=first|exact dsc|fail)[k1]
      refine pHeld_spec h1 ?_;by_cases k2:pHeld M.L num w now=true
      ·try simp -implicitDefEqProofs (disch:=first|exact dsc|fail)[k1,k2]
       exact kEnd_back o1 (.bool _) (by simpa[k1,k2]using hq)
      ·try simp -implicitDefEqProofs (disch:=first|exact dsc|fail)[k1,k2]
       refine fBases_spec h1.forest fun v S xs hn hl hx=>?_
       try simp -implicitDefEqProofs (disch:=first|exact dsc|fail)[]
       refine Contains_u hn.in_ (by omega) ?_
       try simp -implicitDefEqProofs (disch:=first|exact dsc|fail)[]
       refine kEnd_back (o1.trans hn.old_) (.bool _) ?_;have:decide (num∈xs)=fBaseB M.F num:=by rw[Bool.eq_iff_iff,fBaseB_iff,<-hx num];simp
       rw[this];simpa[k1,k2]using hq
theorem tAll_rf{s1:St}{o:Nat->Nat}{t bx c:Nat}{T:List Item}{L1:List Value}{ps:Array Tmp}{ag bd:Code}{K:CPost}{A:Fr}{cc:Nat->Prop}{R:Nat->(Nat->Prop)->St->Prop}{B:Int->Int->Post->St->Prop}(h:TabC s1 o c t T)(hx:Blk s1 bx [.pointer (some ⟨t,0,none⟩)])
  (hR:∀i,Stab s1.next (R i)) (hY:∀(n m:Int) Q s',s1.next<s'.next->s'.heap s1.next=some (.loop L1 ps ag bd .ready none)->(s'.heap s1.next=some (.loop L1 ps ag bd .ready none)/\B n m Q (s'.put s1.next (.loop L1 ps ag bd .busy none)))->CC X (tok s1.next) [.int .u64 n,.int .i64 m] Q s')
  (hB:∀i (hi:i<T.length),Body s1 (.loop L1 ps ag bd .busy none) (.loop L1 ps ag bd .ready none) cc (R i) (R (i+1)) (B T[i].num T[i].min))
  (h0:R 0 (fun _=>False) s1) (hk:∀M S,R T.length M S->Chg s1 S cc->(∀b,M b->s1.next<b/\b<S.next)->K .normal A S) :
  rfCall P (CC X) (.func (.func 115) #[] #[.pointer (some ⟨bx,0,none⟩)]) s1.next (fun _ s'=>rfK s1.next K A s') (s1.alloc (.loop L1 ps ag bd .ready none)):=by
 obtain⟨ρ,hT,_,_⟩:=h;have hxl:=hx.lt;refine⟨rfl,by simp,?_⟩
 refine tAll1xspec (t:=t) (ρ:=ρ) (T:=T) (n0:=s1.next+1) (J:=fun i=>JX s1 (.loop L1 ps ag bd .ready none) cc (R i)) (D:=fun _ _=>False) (hT.old (by simp)) (by rw[St.alloc_old hxl];exact hx.eq) (by simp) (fun i=>JX.looper (hR i)) (fun i hi=>JX.round (hR i) (hR (i+1)) (hY _ _) (hB i hi)) (JX.start (hR 0) h0) (fun M S hJ=>hJ.done (hR T.length) (hk M)) (fun M S h=>h.elim)
theorem pAll_spec(h:LawC s o c t b f sl M)(hq:∀v S,(intE .u64).New s S v ((M.T.map (·.num)).filter fun n=>pHas M n now)->Q v S):CC X 61 [lawV t b f sl M.A,.int .i64 now] Q s:=by
 refine f61xin rfl ?_;obtain⟨ρk,hk,_⟩:=h.auto.own;have hd:=hk.in_.data;have hTlen:M.T.length<=65535:=let ⟨_,hT,_,_⟩:=h.tab;hT.ok.len
 try simp -implicitDefEqProofs (disch:=first|exact dsc|fail)[lawV,hd,mkFn]
 generalize hs1:(((s.alloc (.cells [.pointer (some ⟨t,0,none⟩),sl,.int .i64 M.A.never,.bool M.A.nevers,.pointer (some ⟨b,0,none⟩),.pointer (some ⟨f,0,none⟩)] false)).alloc (.cells [.int .i64 now] false)).alloc (.cells [.func (.func 101) #[.agg #[.pointer (some ⟨t,0,none⟩),sl,.int .i64 M.A.never,.bool M.A.nevers,.pointer (some ⟨b,0,none⟩),.pointer (some ⟨f,0,none⟩)]] #[]] false)).alloc (.cells [.slice none 0 0] false)=s1;have o1:Old s s1:=by subst hs1;exact((((Old.refl s).alloc).alloc).alloc).alloc
 have n1:s1.next=s.next+1+1+1+1:=by subst hs1;simp
 have b1:s1.heap (s.next+1)=some (.cells [.int .i64 now] false):=by
  subst hs1;exact(St.alloc_old (by simp only[St.alloc_next];omega)).trans ((St.alloc_old (by simp only[St.alloc_next];omega)).trans St.alloc_self)
 have b2:s1.heap (s.next+1+1)=some (.cells [.func (.func 101) #[lawV t b f sl M.A] #[]] false):=by
  subst hs1;exact(St.alloc_old (by simp only[St.alloc_next];omega)).trans St.alloc_self
 have b3:s1.heap (s.next+1+1+1)=some (.cells [.slice none 0 0] false):=by
  subst hs1;exact St.alloc_self
 clear hs1;refine tAll_spec fun bx S hbx ho hbn=>?_
 try simp -implicitDefEqProofs (disch:=first|exact dsc|fail)[]
 refine f61xrf0xrange fun hY=>?_;have hn:=ho.le;have oS:=o1.trans ho;have c1:=(ho.eq (b:=s.next+1) (by omega)).trans b1
 have c2:=(ho.eq (b:=s.next+1+1) (by omega)).trans b2
 have c3:=(ho.eq (b:=s.next+1+1+1) (by omega)).trans b3
 have hL:=h.old oS;refine tAll_rf (cc:=(·=s.next+1+1+1)) (R:=fun i=>Coll (intE .u64) (s.next+1+1+1) (fun xs=>xs=((M.T.take i).map (·.num)).filter fun n=>pHas M n now)) hL.tab hbx (fun i=>Coll.stab (by omega)) (fun n m Q s' _ h1 h2=>hY _ _ _ _ h1 h2) (fun i hi Mb S2 Q2 hR hch hyn hM hgo=>?_) (Coll.start c3 (by simp)) (fun Mb S2 hR hch hM=>?_)
 ·obtain⟨v,ρ,xs,h1,h2,rfl,rfl⟩:=hR;have d1:=(hch.eq (b:=s.next+1) (by omega) (by omega)).trans c1
  have d2:=(hch.eq (b:=s.next+1+1) (by omega) (by omega)).trans c2
  have htk:M.T.take (i+1)=M.T.take i++[M.T[i]]:=(List.take_append_getElem hi).symm;have hxl:(((M.T.take i).map (·.num)).filter fun n=>pHas M n now).length<=65535:=Nat.le_trans (List.length_filter_le _ _) (by simp;omega)
  have hL2:LawC S2 (tint o s.next (c+4)) c t b f sl M:=(h.fd (oS.tint (k:=c+4) (c:=fun _=>False)) (fun h=>h) (fun h=>h) (fun h=>h) (fun h=>h)).fd (S:=S2) (o':=tint o s.next (c+4)) (d:=(·=c+4)) ⟨hch.mono (fun b e=>by rw[e];exact tint_new (by omega)),fun _=>rfl⟩ (by omega) (by omega) (by omega) (by omega)
  try simp -implicitDefEqProofs (disch:=first|exact dsc|fail)[d1,d2]
  refine pHas_spec hL2 ?_;by_cases hp:pHas M M.T[i].num now=true
  ·try simp -implicitDefEqProofs (disch:=first|exact dsc|fail)[hp,h1]
   refine h2.push (a:=M.T[i].num) y_tSlice_34 y_tZeros_34 (by simp) (by simp) (by omega) (by omega) fun v' S3 ρ' w1 w2 w3=>?_
   have hb33:S3.heap (s.next+1+1+1)=some (.cells [v] false):=by
    rw[w2.eq (by omega) (fun e=>by have:=hM _ e;omega)];exact h1
   try simp -implicitDefEqProofs (disch:=first|exact dsc|fail)[hb33,w1.in_.data]
   have:=Coll.step (p:=fun xs=>xs=((M.T.take (i+1)).map (·.num)).filter fun n=>pHas M n now) (c:=(·=s.next+1+1+1)) (y:=S.next) (by omega) rfl hyn hM w1 w2 w3 (by rw[htk,List.map_append,List.filter_append];simp[hp])
   obtain⟨g1,g2⟩:=hgo _ _ this.1 this.2.1 this.2.2;rw[St.put_other (by omega)]at g1
   exact⟨g1,g2⟩
  ·try simp -implicitDefEqProofs (disch:=first|exact dsc|fail)[hp]
   exact hgo _ S2 ⟨v,ρ,_,h1,h2,rfl,by rw[htk,List.map_append,List.filter_append];simp[hp]⟩ .refl (fun b h=>.inl h)
 ·obtain⟨v,ρ,xs,h1,h2,rfl,h3⟩:=hR
  try simp -implicitDefEqProofs (disch:=first|exact dsc|fail)[h1]
  rw[List.take_of_length_le (Nat.le_refl _)]at h3;subst h3;exact kEnd_keep (hq v S2 ⟨ρ,h2,oS.trans_chg hch (fun r hr e=>by omega),fun r hr=>by have:=hM r hr;omega⟩)
end
def MSet(q:IntKind)(mb n:Nat)(p:Int->Prop)(M:Nat->Prop)(S:St):Prop:=∃l,SetR q S mb l/\l.length<=n/\(∀m,m∈ks l↔p m)/\M=(fun _=>False)
theorem MSet.stab{q:IntKind}{mb n y:Nat}{p:Int->Prop}(h:mb<y):Stab y (MSet q mb n p):=by
 rintro M S S' ⟨l,h1,h2,h3,rfl⟩ hn he;obtain⟨bs,c,g1,g2⟩:=h1.eq;exact⟨l,⟨Nat.lt_of_lt_of_le h1.lt hn,⟨bs,c,(he mb (.inl h)).trans g1,g2⟩,h1.nd⟩,h2,h3,rfl⟩
theorem mput_len{α:Type}{l:List (Int×α)}{n:Int}{x:α}:(mput l n x).length<=l.length+1:=by
 unfold mput;split<;>simp
section
variable {s : St} {o : Nat → Nat} {c t b f : Nat} {sl : Value} {M : LawM} {now : Int} {Q : Post}
end
end Go.Zz
