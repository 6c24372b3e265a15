import Derived.Test.YtnghaapdoanabaaGreatDoorTb
import Derived.Test.YtnghaapdoanabaaGreatDoorTc
set_option linter.all false
set_option maxRecDepth 20000
set_option linter.all false
namespace Go.Zz
open Go
variable {X : Y0}
structure Item where
 num:Int
 min:Int
 out:Bool
def A42:Enc Item 3:=⟨fun x=>[.int .u64 x.num,.int .i64 x.min,.bool x.out],fun _=>rfl⟩
@[simp]theorem F4h(x:Item):A42.cells x=[.int .u64 x.num,.int .i64 x.min,.bool x.out]:=rfl
structure TOk(T:List Item):Prop where
 num:∀x∈T,1<=x.num/\x.num<=65535
 min:∀x∈T,0<=x.min/\x.min<=1073741824
 nums:T.Pairwise (·.num<·.num)
 mins:T.Pairwise (·.min<=·.min)
theorem C1y:∀{l:List Int},(∀x∈l,1<=x)->l.Pairwise (·<·)->∀i (hi:i<l.length),(i:Int)<l[i]
 | [],_,_,i,hi=>by simp at hi
 | a::r,h,hp,i,hi=>by
  rw[List.pairwise_cons]at hp;cases i with
  | zero=>have:=h a (by simp);simp;omega
  | succ i=>
   have hi':i<r.length:=by simpa using hi
   have:=C1y (l:=r.map (·-1)) (fun x hx=>by
    obtain⟨y,hy,rfl⟩:=List.mem_map.1 hx;have:=hp.1 y hy;have:=h a (by simp);omega) (by rw[List.pairwise_map];exact hp.2.imp (by omega)) i (by simpa using hi')
   simp at this ⊢;omega
termination_by l=>l.length
theorem D9v{l:List Int}{m:Nat}(h:∀x∈l,1<=x/\x<=m)(hp:l.Pairwise (·<·)):l.length<=m:=by
 by_cases h0:l.length=0
 ·omega
 ·have h1:=C1y (fun x hx=>(h x hx).1) hp (l.length-1) (by omega)
  have h2:=(h l[l.length-1] (List.getElem_mem _)).2;omega
theorem TOk.len{T:List Item}(h:TOk T):T.length<=65535:=by
 have:=D9v (l:=T.map (·.num)) (m:=65535) (fun x hx=>by
  obtain⟨y,hy,rfl⟩:=List.mem_map.1 hx;exact h.num y hy) (by rw[List.pairwise_map];exact h.nums)
 simpa using this
structure Tab(s:St)(t:Nat)(ρ:Option Nat)(T:List Item):Prop where
 at_:∃v,Blk s t [v]/\A42.Own s v ρ T
 ne:ρ≠some t
 ok:TOk T
theorem Tab.chg{s S:St}{M:Nat->Prop}{t:Nat}{ρ:Option Nat}{T:List Item}(h:Tab s t ρ T)(o:Chg s S M)(ht:¬M t)(hr:∀b,ρ=some b->¬M b):Tab S t ρ T:=
 let ⟨v,h1,h2⟩:=h.at_
 ⟨⟨v,h1.chg o ht,h2.same o.le (fun b hb=>o.eq (by subst hb;exact h2.lt) (hr b hb))⟩,h.ne,h.ok⟩
theorem Tab.old{s S:St}{t:Nat}{ρ:Option Nat}{T:List Item}(h:Tab s t ρ T)(o:Old s S):Tab S t ρ T:=h.chg (o.chg (M:=fun _=>False)) id (fun _ _=>id)
def B2l(T:List Item)(n:Int):Option Item:=T.find? fun x=>x.num==n
def tMin(T:List Item)(n:Int):Option Int:=(B2l T n).map (·.min)
def tOut(T:List Item)(n:Int):Bool:=match B2l T n with
 | some x=>x.out
 | none=>false
def A8g(T:List Item):Option Int:=T.getLast?.map (·.num)
def A81(T:List Item)(n:Int):Option Int:=(T.find? fun x=>decide (n<x.num)).map (·.num)
def C5h(T:List Item)(n w:Int):Bool:=match tMin T n with
 | none=>false
 | some here=>decide (1<=w)&&match A81 T n with
  | none=>true
  | some m=>!decide (here/w=(tMin T m).getD 0/w)
def D7z(T:List Item)(n g:Int):Bool:=match tMin T n with
 | none=>false
 | some here=>decide (0<=g)&&match A81 T n with
  | none=>true
  | some m=>decide (g<(tMin T m).getD 0-here)
theorem B6m{v tv f:Value}{xs:List Item}{c:Nat->Int}{k:Nat}{Q:Post}{s:St}(hv:A42.In s v xs)(hlen:xs.length<1000000000)
  (hc:∀i (hi:i<xs.length) (Q:Post),Q (.int .i64 (c i)) s->A0u P (CC X) f [.agg (A42.cells xs[i]).toArray,tv] Q s)
  (hk:k<=xs.length) (h1:∀i,i<k->c i<0) (h2:∀i,k<=i->i<xs.length->0<=c i)
  (hq:Q (.tuple #[.int .i64 k,.bool (decide (k<xs.length)&&decide (c k=0))]) s):CC X 129 [v,tv,f] Q s:=by
 refine F63 rfl ?_
 try simp -implicitDefEqProofs (disch:=first|exact dsc|fail)[hv.len A0v]
 refine C9a fun I hI=>?_;have key:∀n i j:Nat,j-i<=n->i<=k->k<=j->j<=xs.length->I v tv f (.int .i64 xs.length) (.int .i64 i) (.int .i64 j) s:=by
  intro n;induction n with
  | zero=>
   intro i j hn hi hj hjl;refine hI _ _ _ _ _ _ _ ?_;have e1:i=k:=by omega
   have e2:j=k:=by omega
   subst e1;subst e2
   try simp -implicitDefEqProofs (disch:=first|exact dsc|fail)[]
   by_cases hlt:j<xs.length
   ·try simp -implicitDefEqProofs (disch:=first|exact dsc|fail)[hlt,hv.idx,hv.agg]
    refine hc j hlt _ ?_
    try simp -implicitDefEqProofs (disch:=first|exact dsc|fail)[]
    simpa[hlt]using hq
   ·try simp -implicitDefEqProofs (disch:=first|exact dsc|fail)[hlt]
    simpa[hlt]using hq
  | succ n ih=>
   intro i j hn hi hj hjl;by_cases hij:i<j
   ·refine hI _ _ _ _ _ _ _ ?_;obtain⟨m,hmd⟩:∃m:Nat,m=(i+j)/2:=⟨_,rfl⟩;have hm:((i:Int)+j)/2=m:=by omega
    have hlt:m<xs.length:=by omega
    try simp -implicitDefEqProofs (disch:=first|exact dsc|fail)[hij,hm,hv.idx,hv.agg]
    refine hc _ hlt _ ?_
    try simp -implicitDefEqProofs (disch:=first|exact dsc|fail)[]
    by_cases hck:c m<0
    ·try simp -implicitDefEqProofs (disch:=first|exact dsc|fail)[hck]
     have:=ih (m+1) j (by omega) (by have:=h2 m;omega) hj hjl
     simpa using this
    ·try simp -implicitDefEqProofs (disch:=first|exact dsc|fail)[hck]
     exact ih i m (by omega) hi (by have:=h1 m;omega) (by omega)
   ·exact ih i j (by omega) hi hj hjl
 exact key xs.length 0 xs.length (by omega) (by omega) hk (by omega)
theorem B7k{v:Value}{xs:List Item}{Q:Post}{s:St}(hv:A42.In s v xs)(hlen:xs.length<1000000000)(hq:∀v' S,A42.New s S v' xs->Q v' S):CC X 70 [v] Q s:=by
 refine H0a rfl ?_
 try simp -implicitDefEqProofs (disch:=first|exact dsc|fail)[hv.nil_eq A0v]
 by_cases hvn:B1f v=true
 ·obtain⟨rfl,rfl⟩:=hv.of_nil hvn;simp -implicitDefEqProofs (disch:=first|exact dsc|fail)[hvn];exact hq _ _ (.nil (.refl _))
 ·have ho:Old s (s.alloc (.cells [] false)):=by simp
  simp -implicitDefEqProofs (disch:=first|exact dsc|fail)[hvn,(hv.old ho).sl.news A7g];refine(Enc.Own.none_ (E:=A42) (s:=s.alloc (.cells [] false)) (b:=s.next) (o:=0) (by simp)).append (ys:=xs) (by decide) (by simp;omega) (by simp;omega) fun v' S ρ' h1 h2 h3 h4 _=>?_
  refine A0a (hq v' S ⟨ρ',by simpa using h1,⟨by simp at h2;omega,fun {b} hb=>?_⟩,fun b hb=>?_⟩)
  ·rw[h4 b (by simp;omega) (by simp),St.alloc_old hb]
  ·rcases h3 with h|⟨b1,h,hb1⟩
   ·rw[h]at hb;cases hb
   ·rw[hb]at h;cases h;simp at hb1;omega
theorem D85{x:Item}{n:Int}{Q:Post}{s:St}(hq:Q (.int .i64 (cmp3 x.num n)) s):CC X 130 [.agg (A42.cells x).toArray,.int .u64 n] Q s:=by
 refine F28 rfl ?_;by_cases h1:x.num<n
 ·try simp -implicitDefEqProofs (disch:=first|exact dsc|fail)[h1]
  exact A0b (by simp) (by simp) (by simpa[cmp3,h1]using hq)
 ·by_cases h2:n<x.num
  ·try simp -implicitDefEqProofs (disch:=first|exact dsc|fail)[h1,h2]
   exact A0b (by simp) (by simp) (by simpa[cmp3,h1,h2]using hq)
  ·try simp -implicitDefEqProofs (disch:=first|exact dsc|fail)[h1,h2]
   exact A0b (by simp) (by simp) (by simpa[cmp3,h1,h2]using hq)
theorem Tab.cut{T:List Item}(h:T.Pairwise (·.num<·.num))(n:Int):∃k,k<=T.length/\(∀i (hi:i<T.length),i<k->T[i].num<n)/\(∀i (hi:i<T.length),k<=i->n<=T[i].num):=by
 induction T with
 | nil=>exact⟨0,by simp,by simp,by simp⟩
 | cons x t ih=>
  rw[List.pairwise_cons]at h;obtain⟨k,h1,h2,h3⟩:=ih h.2;by_cases hx:x.num<n
  ·refine⟨k+1,by simp;omega,fun i hi hk=>?_,fun i hi hk=>?_⟩
   ·cases i with
    | zero=>exact hx
    | succ i=>exact h2 i (by simpa using hi) (by omega)
   ·cases i with
    | zero=>omega
    | succ i=>exact h3 i (by simpa using hi) (by omega)
  ·refine⟨0,by omega,fun i hi hk=>by omega,fun i hi hk=>?_⟩
   cases i with
   | zero=>simp;omega
   | succ i=>
    have:=h.1 _ (List.getElem_mem (show i<t.length by simpa using hi))
    simp only[List.getElem_cons_succ];omega
theorem TOk.lt{T:List Item}(h:TOk T){i j:Nat}(hij:i<j)(hj:j<T.length):T[i].num<T[j].num:=List.pairwise_iff_getElem.1 h.nums i j (by omega) hj hij
theorem B33{T:List Item}(h:TOk T){i:Nat}(hi:i<T.length):B2l T T[i].num=some T[i]:=by
 rw[B2l,List.find?_eq_some_iff_getElem];exact⟨by simp,i,hi,rfl,fun j hj=>by have:=h.lt hj hi;simp;omega⟩
theorem B64{T:List Item}{n:Int}(h:∀i (hi:i<T.length),T[i].num≠n):B2l T n=none:=by
 rw[B2l,List.find?_eq_none];intro x hx;obtain⟨i,hi,rfl⟩:=List.getElem_of_mem hx;simpa using h i hi
theorem A76{t:Nat}{ρ:Option Nat}{T:List Item}{n:Int}{Q:Post}{s:St}(h:Tab s t ρ T)
  (h1:∀i (hi:i<T.length),T[i].num=n->Q (.tuple #[.int .i64 i,.bool true]) s)
  (h0:∀k:Nat,B2l T n=none->k<=T.length->(∀i (hi:i<T.length),i<k->T[i].num<n)->(∀i (hi:i<T.length),k<=i->n<T[i].num)->Q (.tuple #[.int .i64 k,.bool false]) s) :
  CC X 95 [.pointer (some ⟨t,0,none⟩),.int .u64 n] Q s:=by
 refine G9g rfl ?_;obtain⟨v,hb,ho⟩:=h.at_;have hpn:binV P .eql 79 (.pointer (some ⟨t,0,none⟩)) (.pointer none)=some (.bool false):=by simp[binV,eqOp]
 try simp -implicitDefEqProofs (disch:=first|exact dsc|fail)[hpn,hb.eq]
 obtain⟨k,hk,k1,k2⟩:=Tab.cut h.ok.nums n;have hlen:=h.ok.len;refine B6m (c:=fun i=>if hi:i<T.length then cmp3 T[i].num n else 0) (k:=k) ho.in_ (by omega) (fun i hi Q hQ=>?_) hk (fun i hi=>?_) (fun i hi hi2=>?_) ?_
 ·try simp -implicitDefEqProofs (disch:=first|exact dsc|fail)[]
  simp only[dif_pos hi]at hQ;exact D85 hQ
 ·have:=k1 i (by omega) hi
  rw[dif_pos (by omega)];simp[cmp3,this]
 ·have:=k2 i hi2 hi;rw[dif_pos hi2];simp only[cmp3];split<;>(try split)<;>omega
 ·try simp -implicitDefEqProofs (disch:=first|exact dsc|fail)[]
  by_cases hkl:k<T.length
  ·by_cases he:T[k].num=n
   ·have:=h1 k hkl he;simpa[hkl,cmp3,he]using this
   ·have hlt:n<T[k].num:=by have:=k2 k hkl (Nat.le_refl _);omega
    have:=h0 k (B64 (fun i hi=>by
     by_cases hik:i<k
     ·have:=k1 i hi hik;omega
     ·by_cases e:i=k
      ·subst e;exact he
      ·have:=h.ok.lt (show k<i by omega) hi;omega)) hk k1 (fun i hi hki=>by
     by_cases e:i=k
     ·subst e;exact hlt
     ·have:=h.ok.lt (show k<i by omega) hi;omega)
    have hne:¬cmp3 T[k].num n=0:=by simp only[cmp3];split<;>(try split)<;>omega
    simpa[hkl,hne]using this
  ·have:=h0 k (B64 (fun i hi=>by have:=k1 i hi (by omega);omega)) hk k1 (fun i hi hki=>by omega)
   simpa[hkl]using this
theorem A9k{t:Nat}{ρ:Option Nat}{T:List Item}{n:Int}{Q:Post}{s:St}(h:Tab s t ρ T)(hq:Q (.tuple #[.int .i64 ((tMin T n).getD 0),.bool (tMin T n).isSome]) s):CC X 116 [.pointer (some ⟨t,0,none⟩),.int .u64 n] Q s:=by
 refine F3p rfl ?_;obtain⟨v,hb,ho⟩:=h.at_
 try simp -implicitDefEqProofs (disch:=first|exact dsc|fail)[]
 refine A76 h (fun i hi he=>?_) (fun k hn _ _ _=>?_)
 ·have hf:=B33 h.ok hi;have hI:=ho.in_
  try simp -implicitDefEqProofs (disch:=first|exact dsc|fail)[hb.eq,hI.idx,hI.fa,hI.fld]
  rw[he]at hf;simpa[tMin,hf]using hq
 ·try simp -implicitDefEqProofs (disch:=first|exact dsc|fail)[]
  simpa[tMin,hn]using hq
theorem C2h{t:Nat}{ρ:Option Nat}{T:List Item}{n:Int}{Q:Post}{s:St}(h:Tab s t ρ T)(hq:Q (.bool (tOut T n)) s):CC X 77 [.pointer (some ⟨t,0,none⟩),.int .u64 n] Q s:=by
 refine G79 rfl ?_;obtain⟨v,hb,ho⟩:=h.at_
 try simp -implicitDefEqProofs (disch:=first|exact dsc|fail)[]
 refine A76 h (fun i hi he=>?_) (fun k hn _ _ _=>?_)
 ·have hf:=B33 h.ok hi;have hI:=ho.in_;rw[he]at hf
  try simp -implicitDefEqProofs (disch:=first|exact dsc|fail)[hb.eq,hI.idx,hI.fa,hI.fld]
  simpa[tOut,hf]using hq
 ·try simp -implicitDefEqProofs (disch:=first|exact dsc|fail)[]
  simpa[tOut,hn]using hq
theorem C15{t:Nat}{ρ:Option Nat}{T:List Item}{Q:Post}{s:St}(h:Tab s t ρ T)(hq:Q (.int .i64 T.length) s):CC X 96 [.pointer (some ⟨t,0,none⟩)] Q s:=by
 refine G8s rfl ?_;obtain⟨v,hb,ho⟩:=h.at_
 try simp -implicitDefEqProofs (disch:=first|exact dsc|fail)[A0j A0o,hb.eq,ho.in_.len A0v]
 exact hq
theorem C84{t:Nat}{ρ:Option Nat}{T:List Item}{Q:Post}{s:St}(h:Tab s t ρ T)(hq:Q (.tuple #[.int .u64 ((A8g T).getD 0),.bool (A8g T).isSome]) s):CC X 138 [.pointer (some ⟨t,0,none⟩)] Q s:=by
 refine F5a rfl ?_;obtain⟨v,hb,ho⟩:=h.at_;have hI:=ho.in_;have hlen:=h.ok.len
 try simp -implicitDefEqProofs (disch:=first|exact dsc|fail)[]
 refine C15 h ?_;by_cases h0:T=[]
 ·subst h0
  try simp -implicitDefEqProofs (disch:=first|exact dsc|fail)[]
  simpa[A8g]using hq
 ·have hl:0<T.length:=List.length_pos_iff.2 h0;have hl0:¬(T.length:Int)=0:=by omega
  have e1:(T.length:Int)-1=(T.length-1:Nat):=by omega
  try simp -implicitDefEqProofs (disch:=first|exact dsc|fail)[hl0,h0,hb.eq,hI.len A0v,e1,hI.idx,hI.fa,hI.fld0]
  have:A8g T=some T[T.length-1].num:=by rw[A8g,List.getLast?_eq_getElem?,List.getElem?_eq_getElem (by omega)];rfl
  simpa[this]using hq
theorem D0b{T:List Item}(h:TOk T){k:Nat}{n:Int}(hk:k<T.length)(h1:∀i (hi:i<T.length),i<k->T[i].num<=n)(h2:n<T[k].num):A81 T n=some T[k].num:=by
 rw[A81];have:T.find? (fun x=>decide (n<x.num))=some T[k]:=by
  rw[List.find?_eq_some_iff_getElem];exact⟨by simpa using h2,k,hk,rfl,fun j hj=>by have:=h1 j (by omega) hj;simp;omega⟩
 rw[this];rfl
theorem C9f{T:List Item}{n:Int}(h1:∀i (hi:i<T.length),T[i].num<=n):A81 T n=none:=by
 rw[A81,List.find?_eq_none.2]
 ·rfl
 ·intro x hx;obtain⟨i,hi,rfl⟩:=List.getElem_of_mem hx;have:=h1 i hi;simp;omega
theorem B63{t:Nat}{ρ:Option Nat}{T:List Item}{n:Int}{Q:Post}{s:St}(h:Tab s t ρ T)(hq:Q (.tuple #[.int .u64 ((A81 T n).getD 0),.bool (A81 T n).isSome]) s):CC X 57 [.pointer (some ⟨t,0,none⟩),.int .u64 n] Q s:=by
 refine G2q rfl ?_;obtain⟨v,hb,ho⟩:=h.at_;have hI:=ho.in_;have hlen:=h.ok.len;have fin:∀(k:Nat) (ki:Int),ki=k->k<=T.length->(∀i (hi:i<T.length),i<k->T[i].num<=n)->(∀i (hi:i<T.length),k<=i->n<T[i].num)->
   C2w (CC X) Q s (.pointer (some ⟨t,0,none⟩)) (.int .i64 ki) s:=by
  rintro k _ rfl hk h1 h2
  try simp -implicitDefEqProofs (disch:=first|exact dsc|fail)[]
  refine C15 h ?_;by_cases hkl:k<T.length
  ·have hkl':¬(T.length:Int)<=k:=by omega
   try simp -implicitDefEqProofs (disch:=first|exact dsc|fail)[hkl',hkl,hb.eq,hI.idx,hI.fa,hI.fld0]
   rw[D0b h.ok hkl h1 (h2 k hkl (Nat.le_refl _))]at hq;simpa using hq
  ·have hkl':(T.length:Int)<=k:=by omega
   try simp -implicitDefEqProofs (disch:=first|exact dsc|fail)[hkl',hkl]
   rw[C9f (fun i hi=>h1 i hi (by omega))]at hq
   simpa using hq
 try simp -implicitDefEqProofs (disch:=first|exact dsc|fail)[]
 refine A76 h (fun i hi he=>?_) (fun k hn hk h1 h2=>?_)
 ·simp -implicitDefEqProofs (disch:=first|exact dsc|fail)[-D9e,-C2w];refine fin (i+1) _ (by omega) hi (fun j hj hji=>?_) (fun j hj hji=>?_)
  ·by_cases e:j=i
   ·subst e;omega
   ·have:=h.ok.lt (show j<i by omega) hi;omega
  ·have:=h.ok.lt (show i<j by omega) hj;omega
 ·simp -implicitDefEqProofs (disch:=first|exact dsc|fail)[-D9e,-C2w];exact fin k _ rfl hk (fun i hi hik=>by have:=h1 i hi hik;omega) h2
theorem B7l{t:Nat}{ρ:Option Nat}{T:List Item}{n:Int}{Q:Post}{s:St}(h:Tab s t ρ T)
  (hq:Q (.tuple #[.int .i64 ((tMin T n).getD 0),.int .i64 (match A81 T n with|some m=>(tMin T m).getD 0|none=>0),.bool (tMin T n).isSome,.bool (!(A81 T n).isSome)]) s):CC X 122 [.pointer (some ⟨t,0,none⟩),.int .u64 n] Q s:=by
 refine F4s rfl ?_
 try simp -implicitDefEqProofs (disch:=first|exact dsc|fail)[]
 refine A9k h ?_
 try simp -implicitDefEqProofs (disch:=first|exact dsc|fail)[]
 refine B63 h ?_;cases hn:A81 T n with
 | none=>try simp -implicitDefEqProofs (disch:=first|exact dsc|fail)[];simpa[hn]using hq
 | some m=>
  try simp -implicitDefEqProofs (disch:=first|exact dsc|fail)[]
  refine A9k h ?_
  try simp -implicitDefEqProofs (disch:=first|exact dsc|fail)[]
  simpa[hn]using hq
theorem B2o{T:List Item}(h:TOk T){n m:Int}(hm:tMin T n=some m):0<=m/\m<=1073741824:=by
 rw[tMin,B2l]at hm;cases hf:T.find? (fun x=>x.num==n)with
 | none=>rw[hf]at hm;cases hm
 | some x=>rw[hf]at hm;cases hm;exact h.min x (List.mem_of_find?_eq_some hf)
theorem C61{T:List Item}(h:TOk T){n:Int}:0<=(tMin T n).getD 0/\(tMin T n).getD 0<=1073741824:=by
 cases hm:tMin T n with
 | none=>simp
 | some m=>simpa using B2o h hm
theorem C1p{t:Nat}{ρ:Option Nat}{T:List Item}{n w:Int}{Q:Post}{s:St}(h:Tab s t ρ T)(hw:w<=1073741824)(hq:Q (.bool (C5h T n w)) s):CC X 86 [.pointer (some ⟨t,0,none⟩),.int .u64 n,.int .i64 w] Q s:=by
 refine G30 rfl ?_
 try simp -implicitDefEqProofs (disch:=first|exact dsc|fail)[]
 refine B7l h ?_;unfold C5h at hq;cases hm:tMin T n with
 | none=>try simp -implicitDefEqProofs (disch:=first|exact dsc|fail)[hm];simpa[hm]using hq
 | some here=>
  have hh:=B2o h.ok hm;simp only[hm]at hq;by_cases hw1:1<=w
  ·cases hn:A81 T n with
   | none=>try simp -implicitDefEqProofs (disch:=first|exact dsc|fail)[hm,hn,hw1];simpa[hm,hn,hw1]using hq
   | some m=>
    have hh2:=C61 h.ok (n:=m);simp only[hn]at hq
    try simp -implicitDefEqProofs (disch:=first|exact dsc|fail)[hm,hn,hw1,C6i hh.1 (by omega) (show 0<=w by omega),C6i hh2.1 (by omega) (show 0<=w by omega)]
    simpa[hm,hn,hw1]using hq
  ·try simp -implicitDefEqProofs (disch:=first|exact dsc|fail)[hm,hw1];simpa[hm,hw1]using hq
theorem C41{t:Nat}{ρ:Option Nat}{T:List Item}{n g:Int}{Q:Post}{s:St}(h:Tab s t ρ T)(hq:Q (.bool (D7z T n g)) s):CC X 88 [.pointer (some ⟨t,0,none⟩),.int .u64 n,.int .i64 g] Q s:=by
 refine H0m rfl ?_
 try simp -implicitDefEqProofs (disch:=first|exact dsc|fail)[]
 refine B7l h ?_;unfold D7z at hq;cases hm:tMin T n with
 | none=>try simp -implicitDefEqProofs (disch:=first|exact dsc|fail)[hm];simpa[hm]using hq
 | some here=>
  have hh:=B2o h.ok hm;simp only[hm]at hq;by_cases hw1:0<=g
  ·cases hn:A81 T n with
   | none=>try simp -implicitDefEqProofs (disch:=first|exact dsc|fail)[hm,hn,hw1];simpa[hm,hn,hw1]using hq
   | some m=>
    have hh2:=C61 h.ok (n:=m);simp only[hn]at hq
    try simp -implicitDefEqProofs (disch:=first|exact dsc|fail)[hm,hn,hw1]
    simpa[hm,hn,hw1]using hq
  ·try simp -implicitDefEqProofs (disch:=first|exact dsc|fail)[hm,hw1];simpa[hm,hw1]using hq
theorem D2l{Q:Post}{s:St}(hq:∀t S,Tab S t none []->Old s S->s.next<=t->Q (.pointer (some ⟨t,0,none⟩)) S):CC X 49 [] Q s:=by
 refine G45 rfl ?_
 try simp -implicitDefEqProofs (disch:=first|exact dsc|fail)[]
 exact A0a (hq s.next _ ⟨⟨_,⟨by simp,by simp⟩,.nil⟩,by simp,⟨by simp,by simp,.nil,.nil⟩⟩ (by simp) (Nat.le_refl _))
theorem B5x{t:Nat}{ρ:Option Nat}{T:List Item}{Q:Post}{s:St}(h:Tab s t ρ T)(hq:∀t' ρ' S,Tab S t' ρ' T->Old s S->s.next<=t'->(∀b,ρ'=some b->s.next<=b)->Q (.pointer (some ⟨t',0,none⟩)) S):CC X 38 [.pointer (some ⟨t,0,none⟩)] Q s:=by
 refine G6h rfl ?_;obtain⟨v,hb,ho⟩:=h.at_;have hlen:=h.ok.len
 try simp -implicitDefEqProofs (disch:=first|exact dsc|fail)[A0j A0o,hb.eq]
 refine B7k ho.in_ (by omega) fun v' S hn=>?_
 obtain⟨ρ',h1,h2,h3⟩:=hn;have hd:=h1.in_.data
 try simp -implicitDefEqProofs (disch:=first|exact dsc|fail)[hd]
 refine A0a (hq S.next ρ' _ ⟨⟨v',⟨by simp,by simp⟩,h1.same (by simp) (fun b hb=>St.alloc_old (by subst hb;exact h1.lt))⟩,fun e=>by subst e;have:=h1.lt;omega,h.ok⟩ (h2.trans (by simp)) h2.le h3)
theorem C3w{v:Value}{ρ:Option Nat}{xs:List Item}{i j:Nat}{Q:Post}{s:St}(hv:A42.Own s v ρ xs)(hlen:xs.length<1000000)(hi:i<j)(hj:j<=xs.length)
  (hq:∀v' S,A42.Own S v' ρ (xs.take i++xs.drop j)->Chg s S (Row ρ)->Q v' S):CC X 126 [v,.int .i64 i,.int .i64 j] Q s:=by
 refine F1z rfl ?_;have hI:=hv.in_;have hlen2:=hI.len (P:=P) (s':=s) A0v;obtain⟨b,c,post,tl,rfl,rfl,h1,h2,h3⟩:=hv.ne (by intro e;simp[e]at hj;omega)
 have hc2:=h3.two;have hA:A42.At s b 0 xs:=⟨[],_,_,h2,rfl⟩;have hij:¬(i:Int)=j:=by omega
 have hn:=(Enc.Sl.row (c:=A2a 3 c j) (hA.drop hj)).news (P:=P) (t:=144) (bytes:=C48) (zero:=D0r) A7g;simp only[List.length_drop,Nat.zero_add]at hn
 try simp only[Nat.mul_one]at hn
 try simp -implicitDefEqProofs (disch:=first|exact dsc|fail)[hij,hn]
 have e1:(xs.take i).length=i:=by simp;omega
 have hd:=A9f (pre:=A42.row (xs.take i)) (mid:=A42.row ((xs.drop i).take (xs.length-j))) (post:=A42.row ((xs.drop i).drop (xs.length-j))++post) (xs:=A42.row (xs.drop j)) (by simp only[Enc.row_length];simp;omega)
 have hs:A42.row (xs.take i)++(A42.row ((xs.drop i).take (xs.length-j))++(A42.row ((xs.drop i).drop (xs.length-j))++post))=A42.row xs++post:=by
  rw[<-List.append_assoc (A42.row ((xs.drop i).take _)),<-Enc.row_append,List.take_append_drop,<-List.append_assoc,<-Enc.row_append,List.take_append_drop]
 rw[hs]at hd;simp only[Enc.row_length,e1]at hd
 try simp only[Nat.mul_one]at hd
 refine B81 (w:=3) h2 (by omega) (by omega) (by simp;omega) (by simp) (hc2.imp id fun h=>⟨h.1,by omega⟩) ?_
 try rw[Nat.mul_one]
 rw[hd]
 try simp -implicitDefEqProofs (disch:=first|exact dsc|fail)[]
 rw[A9m A0v B4q St.put_self (by simp;omega) (by omega) (by simp;omega) (by simp;omega) (hc2.imp id fun h=>⟨h.1,by omega⟩)]
 try simp -implicitDefEqProofs (disch:=first|exact dsc|fail)[]
 refine A9a A80 (by omega) St.put_self (by simp;omega) ?_
 try simp -implicitDefEqProofs (disch:=first|exact dsc|fail)[]
 have hz:=A9f (pre:=A42.row (xs.take i++xs.drop j)) (mid:=A42.row (xs.drop (i+(xs.length-j)))) (post:=post) (xs:=A2q (A42.cells (Item.mk 0 0 false)) ((xs.length-(i+(xs.length-j)))*3)) (by simp)
 have hm3:(A42.row (xs.take i++xs.drop j)).length=(i+(xs.length-j))*3:=by simp[e1]
 rw[hm3,Enc.row_append,List.append_assoc]at hz
 try simp only[Nat.mul_one]at hz
 erw [hz]
 refine A0a (hq _ _ ?_ ⟨by simp,fun b' hne=>St.put_other (fun e=>hne (by rw[e];rfl))⟩)
 have:=Enc.Own.row (E:=A42) (s:=s.put b (.cells (A42.row (xs.take i++xs.drop j)++(A2q (A42.cells (Item.mk 0 0 false)) ((xs.length-(i+(xs.length-j)))*3)++post)) tl)) (b:=b) (c:=c) (xs:=xs.take i++xs.drop j) (by simpa using h1) St.put_self
  (h3.imp id fun h=>⟨h.1,by simp;omega,by simp;omega⟩)
 simpa[e1,Enc.row_append]using this
def TabC(s:St)(o:Nat->Nat)(c t:Nat)(T:List Item):Prop:=∃ρ,Tab s t ρ T/\o t=c/\∀b,ρ=some b->o b=c
theorem Tab.lt{s:St}{t:Nat}{ρ:Option Nat}{T:List Item}(h:Tab s t ρ T):t<s.next/\∀b,ρ=some b->b<s.next:=
 let ⟨_,h1,h2⟩:=h.at_
 ⟨h1.lt,fun b hb=>by subst hb;exact h2.lt⟩
theorem TabC.fd{s S:St}{o o':Nat->Nat}{d:Nat->Prop}{c t:Nat}{T:List Item}(h:TabC s o c t T)(f:Fd s S o o' d)(hd:¬d c):TabC S o' c t T:=by
 obtain⟨ρ,h1,h2,h3⟩:=h;refine⟨ρ,h1.chg f.chg (by rw[h2];exact hd) (fun b hb=>by rw[h3 b hb];exact hd),(f.col h1.lt.1).trans h2,fun b hb=>(f.col (h1.lt.2 b hb)).trans (h3 b hb)⟩
theorem Tab.tc{s S:St}{o:Nat->Nat}{t c:Nat}{ρ ρ':Option Nat}{T T':List Item}(h:Tab s t ρ T)(h':Tab S t ρ' T')(ht:o t=c)(hr:∀b,ρ=some b->o b=c)(hn:∀b,ρ'=some b->ρ=some b\/s.next<=b):TabC S (tint o s.next c) c t T':=
 ⟨ρ',h',(A7c h.lt.1).trans ht,fun b hb=>(hn b hb).elim (fun e=>(A7c (h.lt.2 b e)).trans (hr b e)) (fun e=>A0d e)⟩
def tAdd(T:List Item)(n m:Int):Int×List Item:=
 if n<1\/65535<n\/m<0\/1073741824<m then(2,T)
 else if(∃x,T.getLast?=some x/\(n<=x.num\/m<x.min))then(15,T)
 else(0,T++[⟨n,m,false⟩])
theorem TOk.add{T:List Item}(h:TOk T){n m:Int}(h1:1<=n)(h2:n<=65535)(h3:0<=m)(h4:m<=1073741824)(hl:∀x,T.getLast?=some x->x.num<n/\x.min<=m):TOk (T++[⟨n,m,false⟩]):=by
 have hall:∀x∈T,x.num<n/\x.min<=m:=by
  intro x hx;obtain⟨T',y,rfl⟩:∃T' y,T=T'++[y]:=⟨T.dropLast,T.getLast (List.ne_nil_of_mem hx),(List.dropLast_concat_getLast _).symm⟩;have hy:=hl y (by simp)
  rcases List.mem_append.1 hx with hx|hx
  ·have g1:=(List.pairwise_append.1 h.nums).2.2 x hx y (by simp)
   have g2:=(List.pairwise_append.1 h.mins).2.2 x hx y (by simp)
   omega
  ·rw[List.mem_singleton.1 hx];exact hy
 refine⟨fun x hx=>?_,fun x hx=>?_,?_,?_⟩
 ·rcases List.mem_append.1 hx with hx|hx
  ·exact h.num x hx
  ·rw[List.mem_singleton.1 hx];exact⟨h1,h2⟩
 ·rcases List.mem_append.1 hx with hx|hx
  ·exact h.min x hx
  ·rw[List.mem_singleton.1 hx];exact⟨h3,h4⟩
 ·exact List.pairwise_append.2 ⟨h.nums,by simp,fun x hx y hy=>by rw[List.mem_singleton.1 hy];exact(hall x hx).1⟩
 ·exact List.pairwise_append.2 ⟨h.mins,by simp,fun x hx y hy=>by rw[List.mem_singleton.1 hy];exact(hall x hx).2⟩
theorem D48{t c:Nat}{o:Nat->Nat}{T:List Item}{n m:Int}{Q:Post}{s:St}(h:TabC s o c t T)
  (hq:∀S o',TabC S o' c t (tAdd T n m).2->Fd s S o o' (·=c)->Q (.int .i64 (tAdd T n m).1) S):CC X 244 [.pointer (some ⟨t,0,none⟩),.int .u64 n,.int .i64 m] Q s:=by
 refine F2j rfl ?_;obtain⟨ρ,hT,hc,hr⟩:=h;obtain⟨v,hb,ho⟩:=hT.at_;have hI:=ho.in_;have hlen:=hT.ok.len;have hbad:∀e,(tAdd T n m)=(e,T)->Q (.int .i64 e) s:=fun e he=>by
  have:=hq s o (by rw[he];exact⟨ρ,hT,hc,hr⟩) .refl
  rwa [he]at this
 by_cases g1:n<1
 ·try simp -implicitDefEqProofs (disch:=first|exact dsc|fail)[A0j A0o,g1]
  exact hbad 2 (by simp[tAdd,g1])
 by_cases g2:65535<n
 ·try simp -implicitDefEqProofs (disch:=first|exact dsc|fail)[A0j A0o,g1,g2]
  exact hbad 2 (by simp[tAdd,g2])
 by_cases g3:m<0
 ·try simp -implicitDefEqProofs (disch:=first|exact dsc|fail)[A0j A0o,g1,g2,g3]
  exact hbad 2 (by simp[tAdd,g3])
 by_cases g4:1073741824<m
 ·try simp -implicitDefEqProofs (disch:=first|exact dsc|fail)[A0j A0o,g1,g2,g3,g4]
  exact hbad 2 (by simp[tAdd,g4])
 have g0:¬(n<1\/65535<n\/m<0\/1073741824<m):=by omega
 have hgo:(∀x,T.getLast?=some x->x.num<n/\x.min<=m)->∀v' S ρ',A42.Own S v' ρ' (T++[⟨n,m,false⟩])->Chg s S (Row ρ)->(∀b,ρ'=some b->ρ=some b\/s.next<=b)->(data v'=true/\v'.cells=#[v'])/\S.heap t=some (.cells [v] false)/\Q (.int .i64 0) (S.put t (.cells [v'] false)):=by
  intro hl v' S ρ' h1 h2 h3;have he:tAdd T n m=(0,T++[⟨n,m,false⟩]):=by
   unfold tAdd;rw[if_neg g0,if_neg];rintro⟨x,hx,h⟩;have:=hl x hx;omega
  have hbS:=hb.chg h2 (fun e=>hT.ne e);have hne:ρ'≠some t:=fun e=>(h3 t e).elim (fun e=>hT.ne e) (fun e=>by have:=hb.lt;omega)
  have:=hq (S.put t (.cells [v'] false)) (tint o s.next c) (by
   rw[he];exact hT.tc ⟨⟨v',⟨by simpa using hbS.lt,by simp⟩,h1.same (by simp) (fun b hb=>St.put_other (fun e=>hne (by rw[hb,e])))⟩,hne,hT.ok.add (by omega) (by omega) (by omega) (by omega) hl⟩ hc hr h3)
   (((h2.mono (N:=fun b=>b=t\/Row ρ b) (fun b hb=>.inr hb)).trans (u:=S.put t (.cells [v'] false)) (N:=fun b=>b=t) ⟨by simp,fun _ hb=>St.put_other hb⟩ (fun b hb=>.inl (.inl hb))).tint (fun b _ hb=>hb.elim (fun e=>by rw[e];exact hc) (fun e=>hr b e)))
  rw[he]at this;exact⟨h1.in_.data,hbS.eq,this⟩
 by_cases h0:T=[]
 ·subst h0
  try simp -implicitDefEqProofs (disch:=first|exact dsc|fail)[A0j A0o,g1,g2,g3,g4,hb.eq,hI.len A0v]
  refine ho.push (E:=A42) (a:=⟨n,m,false⟩) A80 A7g (by rfl) (by rfl) (by simp) (by simp) fun v' S ρ' h1 h2 h3=>?_
  obtain⟨hd,hbS,hQ⟩:=hgo (by simp) v' S ρ' h1 h2 h3
  try simp -implicitDefEqProofs (disch:=first|exact dsc|fail)[hbS,hd]
  exact A0a hQ
 ·obtain⟨T',x,rfl⟩:∃T' y,T=T'++[y]:=⟨T.dropLast,T.getLast h0,(List.dropLast_concat_getLast _).symm⟩;have e1:(((T'++[x]).length:Nat):Int)-1=(T'.length:Nat):=by simp
  have e2:(T'++[x])[T'.length]'(by simp)=x:=by simp
  by_cases g5:n<=x.num
  ·try simp -implicitDefEqProofs (disch:=first|exact dsc|fail)[A0j A0o,g1,g2,g3,g4,hb.eq,hI.len A0v,e1,hI.idx,hI.fa,hI.fld0,hI.fld,e2,g5]
   exact hbad 15 (by simp[tAdd,g1,g2,g3,g4,g5])
  ·by_cases g6:m<x.min
   ·try simp -implicitDefEqProofs (disch:=first|exact dsc|fail)[A0j A0o,g1,g2,g3,g4,hb.eq,hI.len A0v,e1,hI.idx,hI.fa,hI.fld0,hI.fld,e2,g5,g6]
    exact hbad 15 (by simp[tAdd,g1,g2,g3,g4,g5,g6])
   ·try simp -implicitDefEqProofs (disch:=first|exact dsc|fail)[A0j A0o,g1,g2,g3,g4,hb.eq,hI.len A0v,e1,hI.idx,hI.fa,hI.fld0,hI.fld,e2,g5,g6]
    refine ho.push (E:=A42) (a:=⟨n,m,false⟩) A80 A7g (by rfl) (by rfl) (by simp at hlen ⊢;omega) (by simp at hlen ⊢;omega) fun v' S ρ' h1 h2 h3=>?_
    obtain⟨hd,hbS,hQ⟩:=hgo (by simp;omega) v' S ρ' h1 h2 h3
    try simp -implicitDefEqProofs (disch:=first|exact dsc|fail)[hbS,hd]
    exact A0a hQ
def tRel(T:List Item)(n:Int):Int×List Item:=match B2l T n with
 | none=>(4,T)
 | some x=>if x.out then(7,T)else if A8g T=some n then(12,T)else(0,T.map fun y=>if y.num==n then { y with out:=true }else y)
def B94(T:List Item)(n:Int):Int×List Item:=match B2l T n with
 | none=>(4,T)
 | some x=>if x.out then(0,T.filter fun y=>!(y.num==n))else(7,T)
theorem TOk.out{T:List Item}(h:TOk T){n:Int}:TOk (T.map fun y=>if y.num==n then { y with out:=true }else y):=by
 have e1:∀y:Item,(if y.num==n then { y with out:=true }else y).num=y.num:=fun y=>by split<;>rfl
 have e2:∀y:Item,(if y.num==n then { y with out:=true }else y).min=y.min:=fun y=>by split<;>rfl
 refine⟨fun x hx=>?_,fun x hx=>?_,?_,?_⟩
 ·obtain⟨y,hy,rfl⟩:=List.mem_map.1 hx;rw[e1];exact h.num y hy
 ·obtain⟨y,hy,rfl⟩:=List.mem_map.1 hx;rw[e2];exact h.min y hy
 ·rw[List.pairwise_map];simpa only[e1]using h.nums
 ·rw[List.pairwise_map];simpa only[e2]using h.mins
theorem TOk.filter{T:List Item}(h:TOk T){p:Item->Bool}:TOk (T.filter p):=
 ⟨fun x hx=>h.num x (List.mem_filter.1 hx).1,fun x hx=>h.min x (List.mem_filter.1 hx).1,h.nums.filter _,h.mins.filter _⟩
theorem TOk.ne{T:List Item}(h:TOk T){i j:Nat}(hi:i<T.length)(hj:j<T.length)(hij:j≠i):(T[j].num==T[i].num)=false:=by
 rcases Nat.lt_or_gt_of_ne hij with e|e
 ·have:=h.lt e hi;simp;omega
 ·have:=h.lt e hj;simp;omega
theorem Tab.set{t:Nat}{ρ:Option Nat}{T T':List Item}{s S:St}{v:Value}(h:Tab s t ρ T)(hb:Blk s t [v])(h1:A42.Own S v ρ T')(h2:Chg s S (Row ρ))(h3:TOk T'):Tab S t ρ T':=
 ⟨⟨v,hb.chg h2 (fun e=>h.ne e),h1⟩,h.ne,h3⟩
theorem C1t{t c:Nat}{o:Nat->Nat}{T:List Item}{n:Int}{Q:Post}{s:St}(h:TabC s o c t T)
  (hq:∀S o',TabC S o' c t (tRel T n).2->Fd s S o o' (·=c)->Q (.int .i64 (tRel T n).1) S):CC X 90 [.pointer (some ⟨t,0,none⟩),.int .u64 n] Q s:=by
 refine G91 rfl ?_;obtain⟨ρ,hT,hc,hr⟩:=h;obtain⟨v,hb,ho⟩:=hT.at_;have hI:=ho.in_;have hlen:=hT.ok.len;have hbad:∀e,(tRel T n)=(e,T)->Q (.int .i64 e) s:=fun e he=>by
  have:=hq s o (by rw[he];exact⟨ρ,hT,hc,hr⟩) .refl
  rwa [he]at this
 try simp -implicitDefEqProofs (disch:=first|exact dsc|fail)[]
 refine A76 hT (fun i hi he=>?_) (fun k hn _ _ _=>?_)
 ·have hf:=B33 hT.ok hi;rw[he]at hf;by_cases g1:T[i].out=true
  ·try simp -implicitDefEqProofs (disch:=first|exact dsc|fail)[A0j A0o,hb.eq,hI.idx,hI.fa,hI.fld,g1]
   exact hbad 7 (by simp[tRel,hf,g1])
  ·have hl:=hI.len (P:=P) (s':=s) A0v;by_cases g2:i+1=T.length
   ·have e1:(T.length:Int)-1=(i:Nat):=by omega
    have e3:A8g T=some n:=by
     rw[A8g,List.getLast?_eq_getElem?,List.getElem?_eq_getElem (show T.length-1<T.length by omega)]
     have e4:T.length-1=i:=by omega
     simp only[e4];simp[he]
    try simp -implicitDefEqProofs (disch:=first|exact dsc|fail)[A0j A0o,hb.eq,hI.idx,hI.fa,hI.fld,g1,hl,e1]
    exact hbad 12 (by simp[tRel,hf,g1,e3])
   ·have e1:¬(i:Int)=(T.length:Int)-1:=by omega
    have e3:¬A8g T=some n:=by
     rw[A8g,List.getLast?_eq_getElem?,List.getElem?_eq_getElem (show T.length-1<T.length by omega)]
     have:=hT.ok.lt (show i<T.length-1 by omega) (by omega)
     simp;omega
    try simp -implicitDefEqProofs (disch:=first|exact dsc|fail)[A0j A0o,hb.eq,hI.idx,hI.fa,hI.fld,g1,hl,e1]
    refine ho.storeF (off:=2) (a:={ T[i]with out:=true }) hi (by rfl) (by rfl) (by decide) (by simp[A42,lwr]) fun S h1 h2 h3=>?_
    have h4:=F26 (xs:=T) (g:=fun y=>{ y with out:=true }) (p:=fun y=>y.num==n) hi (by simpa using he) (fun j hj hji=>by have:=hT.ok.ne hi hj hji;rwa [he]at this)
    have h5:tRel T n=(0,T.map fun y=>if y.num==n then { y with out:=true }else y):=by simp only[tRel,hf];rw[if_neg g1,if_neg e3]
    rw[h4]at h1;have:=hq S (tint o s.next c) (by rw[h5];exact hT.tc (hT.set hb h1 h2 hT.ok.out) hc hr (fun b hb=>.inl hb)) (h2.tint fun b _ hb=>hr b hb)
    rw[h5]at this
    try simp -implicitDefEqProofs (disch:=first|exact dsc|fail)[]
    exact A0a this
 ·try simp -implicitDefEqProofs (disch:=first|exact dsc|fail)[A0j A0o]
  exact hbad 4 (by simp[tRel,hn])
theorem C8d{t c:Nat}{o:Nat->Nat}{T:List Item}{n:Int}{Q:Post}{s:St}(h:TabC s o c t T)
  (hq:∀S o',TabC S o' c t (B94 T n).2->Fd s S o o' (·=c)->Q (.int .i64 (B94 T n).1) S):CC X 93 [.pointer (some ⟨t,0,none⟩),.int .u64 n] Q s:=by
 refine G1y rfl ?_;obtain⟨ρ,hT,hc,hr⟩:=h;obtain⟨v,hb,ho⟩:=hT.at_;have hI:=ho.in_;have hlen:=hT.ok.len;have hbad:∀e,(B94 T n)=(e,T)->Q (.int .i64 e) s:=fun e he=>by
  have:=hq s o (by rw[he];exact⟨ρ,hT,hc,hr⟩) .refl
  rwa [he]at this
 try simp -implicitDefEqProofs (disch:=first|exact dsc|fail)[]
 refine A76 hT (fun i hi he=>?_) (fun k hn _ _ _=>?_)
 ·have hf:=B33 hT.ok hi;rw[he]at hf;by_cases g1:T[i].out=true
  ·try simp -implicitDefEqProofs (disch:=first|exact dsc|fail)[A0j A0o,hb.eq,hI.idx,hI.fa,hI.fld,g1]
   refine C3w (i:=i) (j:=i+1) ho (by omega) (by omega) (by omega) fun v' S h1 h2=>?_
   have hbS:=hb.chg h2 (fun e=>hT.ne e);have hd:=h1.in_.data
   try simp -implicitDefEqProofs (disch:=first|exact dsc|fail)[hbS.eq,hd]
   have h4:=B3v (xs:=T) (p:=fun y=>!(y.num==n)) hi (by simpa using he) (fun j hj hji=>by have:=hT.ok.ne hi hj hji;rw[he]at this;simpa using this)
   rw[h4]at h1;have h5:B94 T n=(0,T.filter fun y=>!(y.num==n)):=by simp only[B94,hf];rw[if_pos g1]
   have:=hq (S.put t (.cells [v'] false)) (tint o s.next c) (by
     rw[h5];exact hT.tc ⟨⟨v',⟨by simpa using hbS.lt,by simp⟩,h1.same (by simp) (fun b hb=>St.put_other (fun e=>hT.ne (by rw[hb,e])))⟩,hT.ne,hT.ok.filter⟩ hc hr (fun b hb=>.inl hb))
    (((h2.mono (N:=fun b=>b=t\/Row ρ b) (fun b hb=>.inr hb)).trans (u:=S.put t (.cells [v'] false)) (N:=fun b=>b=t) ⟨by simp,fun _ hb=>St.put_other hb⟩ (fun b hb=>.inl (.inl hb))).tint (fun b _ hb=>hb.elim (fun e=>by rw[e];exact hc) (fun e=>hr b e)))
   rw[h5]at this;exact A0a this
  ·try simp -implicitDefEqProofs (disch:=first|exact dsc|fail)[A0j A0o,hb.eq,hI.idx,hI.fa,hI.fld,g1]
   exact hbad 7 (by simp[B94,hf,g1])
 ·try simp -implicitDefEqProofs (disch:=first|exact dsc|fail)[A0j A0o]
  exact hbad 4 (by simp[B94,hn])
theorem C2p{t:Nat}{Q:Post}{s:St}(hq:∀bx S,Blk S bx [.pointer (some ⟨t,0,none⟩)]->Old s S->s.next<=bx->Q (.func (.func 115) #[] #[.pointer (some ⟨bx,0,none⟩)]) S):CC X 76 [.pointer (some ⟨t,0,none⟩)] Q s:=by
 refine G1p rfl ?_
 try simp -implicitDefEqProofs (disch:=first|exact dsc|fail)[mkFn,Value.oneCell']
 exact A0a (hq s.next _ ⟨by simp,by simp⟩ (by simp) (Nat.le_refl _))
theorem C8i{t bx y n0:Nat}{ρ:Option Nat}{T:List Item}{J:Nat->(Nat->Prop)->St->Prop}{D:(Nat->Prop)->St->Prop}{M0:Nat->Prop}{Q:Post}{s:St}(h:Tab s t ρ T)(hx:s.heap bx=some (.cells [.pointer (some ⟨t,0,none⟩)] false))(hn:s.next=n0)
  (hL:∀i,B14 n0 (J i)) (hr:∀i (hi:i<T.length),B6u (CC X) y n0 [.int .u64 T[i].num,.int .i64 T[i].min] (J i) (J (i+1)) D) (h0:J 0 M0 s)
  (hq:∀M S,J T.length M S->Q (.tuple #[]) S) (hqD:∀M S,D M S->Q (.tuple #[]) S) :
  CC X 115 [.func (.yield y) #[] #[],.pointer (some ⟨bx,0,none⟩)] Q s:=by
 refine F5z rfl ?_;obtain⟨v,hb,ho⟩:=h.at_;have hlen:=h.ok.len
 try simp -implicitDefEqProofs (disch:=first|exact dsc|fail)[hx,A0j A0o,hb.eq]
 refine B7k ho.in_ (by omega) fun v' S1 hnw=>?_
 obtain⟨ρ',hw1,hw2,hw3⟩:=hnw;have hI:=hw1.in_
 try simp -implicitDefEqProofs (disch:=first|exact dsc|fail)[hI.len A0v]
 refine D1x fun I hI'=>?_;subst hn;refine up (n:=T.length) (M:=fun i=>∀M S,J i M S->s.next<=S.next->A42.Own S v' ρ' T->(∀b,ρ'=some b->¬M b)->I (.func (.yield y) #[] #[]) v' (.int .i64 T.length) (.int .i64 i) S) (fun i hi ih M S hJ hSn hV hM=>?_) 0 (Nat.zero_le _) M0 S1 ?_ hw2.le hw1 ?_
 ·refine hI' _ _ _ _ _ ?_;by_cases hlt:i<T.length
  ·try simp -implicitDefEqProofs (disch:=first|exact dsc|fail)[hlt,hV.in_.idx,hV.in_.agg]
   have hJ':∀x,J i M (S.alloc x):=fun x=>(hL i).st hJ (by simp) (fun b hb=>St.alloc_old (hb.elim (fun h=>by omega) (fun h=>((hL i).lt hJ h).2)))
   refine⟨rfl,rfl,hr i hlt M _ _ (hJ' _) (fun M' S3 hJ3 hK=>?_) (fun M' S3 hD hK=>?_)⟩
   ·try simp -implicitDefEqProofs (disch:=first|exact dsc|fail)[]
    have hle:=hK.le;simp at hle;refine ih hlt M' S3 hJ3 (by omega) (hV.same (by omega) (fun b hb=>?_)) (fun b hb hm=>?_)
    ·subst hb;have:=hV.lt;rw[hK.eq b (hw3 b rfl) (by simp;omega) (hM b rfl),St.alloc_old this]
    ·rcases hK.own b hm with e|e
     ·exact hM b hb e
     ·subst hb;have:=hV.lt;simp at e;omega
   ·try simp -implicitDefEqProofs (disch:=first|exact dsc|fail)[]
    exact A0a (hqD M' S3 hD)
  ·try simp -implicitDefEqProofs (disch:=first|exact dsc|fail)[hlt]
   have:i=T.length:=by omega
   subst this;exact A0a (hq M S hJ)
 ·exact(hL 0).st h0 hw2.le (fun b hb=>hw2.eq (hb.elim id (fun hb=>((hL 0).lt h0 hb).2)))
 ·intro b hb hm;have:=(hL 0).lt h0 hm;have:=hw3 b hb;omega
end Go.Zz
