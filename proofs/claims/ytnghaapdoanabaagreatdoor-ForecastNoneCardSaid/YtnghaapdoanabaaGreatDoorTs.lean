import Derived.Test.YtnghaapdoanabaaGreatDoorTa
set_option linter.all false
namespace Go.Zz
open Go
def gt(xs:List Int)(i:Nat):Int:=xs.getD i 0
theorem C8z{xs:List Int}{i:Nat}(h:i<xs.length):xs[i]=gt xs i:=by simp[gt,h]
def swp(xs:List Int)(i j:Nat):List Int:=(xs.set i (gt xs j)).set j (gt xs i)
@[simp]theorem G1j{xs:List Int}{i j:Nat}:(swp xs i j).length=xs.length:=by simp[swp]
theorem E8b{xs:List Int}{i k:Nat}{x:Int}(h:i<xs.length):gt (xs.set i x) k=if k=i then x else gt xs k:=by
 simp only[gt,List.getD_eq_getElem?_getD,List.getElem?_set];by_cases e:i=k
 ·subst e;simp[h]
 ·simp[e,show ¬k=i from fun x=>e x.symm]
theorem A20{xs:List Int}{i j k:Nat}(hi:i<xs.length)(hj:j<xs.length):gt (swp xs i j) k=if k=j then gt xs i else if k=i then gt xs j else gt xs k:=by
 rw[swp,E8b (by simpa using hj),E8b hi]
inductive Sw (a b:Nat) (xs:List Int):List Int->Prop
 | refl:Sw a b xs xs
 | swap {ys:List Int} {i j:Nat}:Sw a b xs ys->a<=i->i<b->a<=j->j<b->Sw a b xs (swp ys i j)
theorem Sw.length{a b:Nat}{xs ys:List Int}(h:Sw a b xs ys):ys.length=xs.length:=by
 induction h with
 | refl=>rfl
 | swap _ _ _ _ _ ih=>simpa using ih
theorem Sw.trans{a b:Nat}{xs ys zs:List Int}(h:Sw a b xs ys)(g:Sw a b ys zs):Sw a b xs zs:=by
 induction g with
 | refl=>exact h
 | swap _ h1 h2 h3 h4 ih=>exact .swap ih h1 h2 h3 h4
theorem Sw.mono{a b a' b':Nat}{xs ys:List Int}(h:Sw a b xs ys)(ha:a'<=a)(hb:b<=b'):Sw a' b' xs ys:=by
 induction h with
 | refl=>exact .refl
 | swap _ h1 h2 h3 h4 ih=>exact .swap ih (by omega) (by omega) (by omega) (by omega)
theorem Sw.out{a b:Nat}{xs ys:List Int}(h:Sw a b xs ys)(hb:b<=xs.length){k:Nat}(hk:k<a\/b<=k):gt ys k=gt xs k:=by
 induction h with
 | refl=>rfl
 | swap g h1 h2 h3 h4 ih=>
  have:=g.length;rw[A20 (by omega) (by omega),if_neg (by omega),if_neg (by omega),ih]
theorem Sw.mem{a b:Nat}{xs ys:List Int}(h:Sw a b xs ys)(hb:b<=xs.length):∀k,a<=k->k<b->∃l,a<=l/\l<b/\gt ys k=gt xs l:=by
 induction h with
 | refl=>exact fun k h1 h2=>⟨k,h1,h2,rfl⟩
 | swap g h1 h2 h3 h4 ih=>
  have:=g.length;intro k hk1 hk2;rw[A20 (by omega) (by omega)]
  split
  ·exact ih _ h1 h2
  ·split
   ·exact ih _ h3 h4
   ·exact ih k hk1 hk2
theorem Sw.all{a b:Nat}{xs ys:List Int}(h:Sw a b xs ys)(hb:b<=xs.length){p:Int->Prop}(hp:∀k,a<=k->k<b->p (gt xs k)):∀k,a<=k->k<b->p (gt ys k):=fun k h1 h2=>by
 obtain⟨l,l1,l2,e⟩:=h.mem hb k h1 h2;rw[e];exact hp l l1 l2
theorem E3h{xs:List Int}{i j:Nat}(hi:i<xs.length)(hj:j<xs.length):(swp xs i j).Perm xs:=by
 by_cases hij:i=j
 ·subst hij;have:swp xs i i=xs:=by
   apply List.ext_getElem?;intro k;simp only[swp,List.getElem?_set];by_cases e:i=k
   ·subst e;simp[gt,hi]
   ·simp[e]
  rw[this]
 rw[List.perm_iff_count];intro a;unfold swp;rw[List.count_set (by simpa using hj),List.count_set hi]
 have e1:(xs.set i (gt xs j))[j]'(by simpa using hj)=gt xs j:=by
  rw[List.getElem_set,if_neg hij];simp[gt,hj]
 have e2:xs[i]=gt xs i:=by simp[gt,hi]
 have hc1:xs[i]==a->0<xs.count a:=fun h=>List.count_pos_iff.2 (by rw[beq_iff_eq]at h;rw[<-h];exact List.getElem_mem hi)
 have e3:xs[j]=gt xs j:=by simp[gt,hj]
 have hc2:xs[j]==a->0<xs.count a:=fun h=>List.count_pos_iff.2 (by rw[beq_iff_eq]at h;rw[<-h];exact List.getElem_mem hj)
 rw[e2]at hc1;rw[e3]at hc2;rw[e1,e2];generalize List.count a xs=cc at *;generalize (gt xs i==a)=p at *;generalize (gt xs j==a)=r at *;cases p<;>cases r<;>simp at hc1 hc2 ⊢<;>omega
theorem Sw.perm{a b:Nat}{xs ys:List Int}(h:Sw a b xs ys)(hb:b<=xs.length):ys.Perm xs:=by
 induction h with
 | refl=>exact .refl _
 | swap g h1 h2 h3 h4 ih=>have:=g.length;exact(E3h (by omega) (by omega)).trans ih
def Srt(xs:List Int)(a b:Nat):Prop:=∀i j,a<=i->i<j->j<b->gt xs i<=gt xs j
theorem Srt.list{xs:List Int}(h:Srt xs 0 xs.length):xs.Pairwise (·<=·):=by
 rw[List.pairwise_iff_getElem];intro i j hi hj hij;have:=h i j (Nat.zero_le _) hij hj;simpa[gt,hi,hj]using this
section
variable {s : St} {v : Value} {q : IntKind} {xs : List Int}
theorem Enc.In.get(h:(intE q).In s v xs){i n:Nat}(hi:i<xs.length):A04 (some (false,n)) (A7p v i) s=some (.int q (gt xs i)):=by
 rw[h.one hi,C8z hi];rfl
theorem A0x{ρ:Option Nat}{e:Option (Option Nat×Bool×Nat)}{z:Option Nat}{i j:Nat}{ji:Int}{k:Post}{x y:Int}(h:(intE q).Own s v ρ xs)(hi:i<xs.length)(hj:j<xs.length)(hx:x=gt xs j)(hy:y=gt xs i)
  (he:e=some (none,false,1)) (hz:z=some 1) (hji:ji=j)
  (hk:∀S,(intE q).Own S v ρ (swp xs i j)->Chg s S (Row ρ)->S.next=s.next->k undef S) :
  A7j (some 1) (A7p v i) (.int q x) (fun _ s=>optW (A3g e v (.int .i64 ji)) (fun a=>A7j z a (.int q y) k s)) s:=by
 subst he;subst hz;subst hji;subst hx;subst hy;refine h.store1 (a:=gt xs j) hi rfl rfl fun S h1 h2 h3=>?_;have hj':j<(xs.set i (gt xs j)).length:=by simpa using hj
 rw[h1.in_.idx (by omega) (by omega)]
 simp only[D8q,Int.toNat_natCast,Nat.mul_one];refine h1.store1 (a:=gt xs i) hj' rfl rfl fun S' g1 g2 g3=>?_;exact hk S' g1 (h2.trans g2 (fun b hb=>.inl hb)) (g3.trans h3)
end
theorem D7j{a b:Int}(h0:0<=b)(h1:b<18446744073709551616):0<=bits .and .u64 a b/\bits .and .u64 a b<=b:=by
 have e:bits .and .u64 a b=IntKind.u64.wrap ((BitVec.ofInt 64 a &&& BitVec.ofInt 64 b).toNat:Int):=rfl;have hb:(BitVec.ofInt 64 b).toNat=b.toNat:=by
  rw[BitVec.toNat_ofInt];omega
 have hle:(BitVec.ofInt 64 a &&& BitVec.ofInt 64 b).toNat<=b.toNat:=by
  rw[BitVec.toNat_and,hb];exact Nat.and_le_right
 rw[e,A65 (by omega) (by omega)]
 omega
def Out(xs:List Int)(a0 b0 a b:Nat):Prop:=∀i j,a0<=i->i<j->j<b0->¬(a<=i/\j<b)->gt xs i<=gt xs j
theorem Out.sw{xs ys:List Int}{a0 b0 a b:Nat}(h:Out xs a0 b0 a b)(hs:Sw a b xs ys)(ha0:a0<=a)(hb0:b<=b0)(hb:b<=xs.length):Out ys a0 b0 a b:=by
 intro i j h1 h2 h3 h4;by_cases hi:a<=i/\i<b
 ·have hj:b<=j:=by omega
  rw[hs.out hb (.inr hj)];exact hs.all hb (p:=fun x=>x<=gt xs j) (fun k k1 k2=>h k j (by omega) (by omega) h3 (by omega)) i hi.1 hi.2
 ·rw[hs.out hb (k:=i) (by omega)]
  by_cases hj:a<=j/\j<b
  ·exact hs.all hb (p:=fun x=>gt xs i<=x) (fun k k1 k2=>h i k h1 (by omega) (by omega) (by omega)) j hj.1 hj.2
  ·rw[hs.out hb (k:=j) (by omega)]
   exact h i j h1 h2 h3 h4
theorem Out.srt{xs:List Int}{a0 b0 a b:Nat}(h:Out xs a0 b0 a b)(hs:Srt xs a b):Srt xs a0 b0:=fun i j h1 h2 h3=>by
 by_cases hh:a<=i/\j<b
 ·exact hs i j hh.1 h2 hh.2
 ·exact h i j h1 h2 h3 hh
theorem Out.left{zs ws:List Int}{a0 b0 a b m:Nat}(h:Out zs a0 b0 a b)(h0:a0<=a)(h1:b<=b0)(h2:b0<=zs.length)(ham:a<=m)(hmb:m<b)(hl:∀i,a<=i->i<m->gt zs i<=gt zs m)(hr:∀i,m<i->i<b->gt zs m<=gt zs i)
  (hs:Sw a m zs ws) (hsr:Srt ws a m):Out ws a0 b0 (m+1) b:=by
 have ho:=h.sw (hs.mono (Nat.le_refl _) (Nat.le_of_lt hmb)) h0 h1 (by omega)
 have hm:gt ws m=gt zs m:=hs.out (by omega) (.inr (Nat.le_refl _))
 have hle:∀k,a<=k->k<m->gt ws k<=gt zs m:=hs.all (by omega) (p:=fun x=>x<=gt zs m) hl
 intro i j g1 g2 g3 g4;by_cases hij:a<=i/\j<b
 ·have hge:∀k,m<k->k<b->gt zs m<=gt ws k:=fun k k1 k2=>by rw[hs.out (by omega) (.inr (by omega))];exact hr k k1 k2
  by_cases hjm:j<m
  ·exact hsr i j hij.1 g2 hjm
  ·by_cases him:i<m
   ·by_cases e:j=m
    ·subst e;rw[hm];exact hle i hij.1 him
    ·exact Int.le_trans (hle i hij.1 him) (hge j (by omega) hij.2)
   ·have:i=m:=by omega
    subst this;rw[hm];exact hge j (by omega) hij.2
 ·exact ho i j g1 g2 g3 hij
theorem Out.right{zs ws:List Int}{a0 b0 a b m:Nat}(h:Out zs a0 b0 a b)(h0:a0<=a)(h1:b<=b0)(h2:b0<=zs.length)(ham:a<=m)(hmb:m<b)(hl:∀i,a<=i->i<m->gt zs i<=gt zs m)(hr:∀i,m<i->i<b->gt zs m<=gt zs i)
  (hs:Sw (m+1) b zs ws) (hsr:Srt ws (m+1) b):Out ws a0 b0 a m:=by
 have ho:=h.sw (hs.mono (by omega) (Nat.le_refl _)) h0 h1 (by omega)
 have hm:gt ws m=gt zs m:=hs.out (by omega) (.inl (by omega))
 have hge:∀k,m+1<=k->k<b->gt zs m<=gt ws k:=hs.all (by omega) (p:=fun x=>gt zs m<=x) (fun k k1 k2=>hr k (by omega) k2)
 have hle:∀k,a<=k->k<m->gt ws k<=gt zs m:=fun k k1 k2=>by rw[hs.out (by omega) (.inl (by omega))];exact hl k k1 k2
 intro i j g1 g2 g3 g4;by_cases hij:a<=i/\j<b
 ·by_cases him:m<i
  ·exact hsr i j (by omega) g2 hij.2
  ·by_cases e:i=m
   ·subst e;rw[hm];exact hge j (by omega) hij.2
   ·by_cases e2:j=m
    ·subst e2;rw[hm];exact hle i hij.1 (by omega)
    ·exact Int.le_trans (hle i hij.1 (by omega)) (hge j (by omega) hij.2)
 ·exact ho i j g1 g2 g3 hij
def Pre(xs:List Int)(a b:Nat):Prop:=a=0\/∀k,a<=k->k<b->gt xs (a-1)<=gt xs k
theorem Pre.sw{xs ys:List Int}{a b:Nat}(h:Pre xs a b)(hs:Sw a b xs ys)(hb:b<=xs.length):Pre ys a b:=by
 by_cases h0:a=0
 ·exact .inl h0
 ·right;have h:=h.resolve_left h0;rw[hs.out hb (.inl (by omega))]
  exact hs.all hb (p:=fun x=>gt xs (a-1)<=x) h
end Go.Zz
