import Derived.Test.YtnghaapdoanabaaGreatDoorTa
import Derived.Test.YtnghaapdoanabaaGreatDoorTs
set_option linter.all false
set_option maxRecDepth 20000
set_option linter.all false
namespace Go.Zz
open Go
variable {X : Y0}
def len8:List UInt8:=[0,1,2,2,3,3,3,3,4,4,4,4,4,4,4,4]++List.replicate 16 5++List.replicate 32 6++List.replicate 64 7++List.replicate 128 8
theorem C1h:∀n,n<256->0<n->2^((len8.getD n 0).toNat-1)<=n/\n<2^(len8.getD n 0).toNat/\1<=(len8.getD n 0).toNat/\(len8.getD n 0).toNat<=8:=by decide
theorem E18{n:Nat}(h:n<256):(bAr len8)[n]?=some (len8.getD n 0):=by
 have hl:len8.length=256:=by decide
 have hs:(bAr len8).size=256:=by rw[<-hl];rfl
 rw[getElem?_pos (bAr len8) n (by omega)]
 congr 1;show len8.toArray[n]'(by simpa[hl]using h)=_
 simp[hl,h]
theorem C9b{n:Nat}(hn:n<16777216){Q:Post}{s:St}(hq:∀k:Nat,k<=24->n<2^k->(0<n->1<=k/\2^(k-1)<=n)->Q (.int .i64 k) s):CC X 112 [.int .u64 n] Q s:=by
 refine F4b rfl ?_;have h32:¬(4294967296:Int)<=n:=by omega
 have tab:∀(m:Nat) (t:Nat),m<256->t<=16->(∀k:Nat,k<=8->m<2^k->(0<m->1<=k/\2^(k-1)<=m)->Q (.int .i64 (t+k:Nat)) s)->A8w (CC X) Q s (.int .u64 m) (.int .i64 t) s:=by
  intro m t hm ht hk;have hg:=E18 hm;have h8:((len8.getD m 0).toNat)<=8:=by
   by_cases h0:0<m
   ·exact(C1h m hm h0).2.2.2
   ·have:m=0:=by omega
    subst this;decide
  have hc:D73=bAr len8:=by rfl
  have h8':=h8;simp only[List.getD_eq_getElem?_getD]at h8';simp -implicitDefEqProofs (disch:=first|exact dsc|fail)[-B04,-B05,A8w,hc,wrap_i64,F0y,B3l,hg];have:=hk (len8.getD m 0).toNat h8 (by
   by_cases h0:0<m
   ·exact(C1h m hm h0).2.1
   ·have:m=0:=by omega
    subst this;decide) (fun h0=>⟨(C1h m hm h0).2.2.1,(C1h m hm h0).1⟩)
  simpa using this
 try simp -implicitDefEqProofs (disch:=first|exact dsc|fail)[-A8w,-B04,-B05,h32]
 by_cases h16:65536<=n
 ·have g16:(65536:Int)<=n:=by omega
  have e1:(n:Int)/65536=(n/65536:Nat):=by omega
  have g8:¬(256:Int)<=(n/65536:Nat):=by omega
  simp -implicitDefEqProofs (disch:=first|exact dsc|fail)[-A8w,B05,B04,g16,C66,Int.fdiv_eq_ediv_of_nonneg,wrap_i64];rw[e1]at *;simp only[g8,if_false];refine tab (n/65536) 16 (by omega) (by omega) fun k hk h1 h2=>hq _ (by omega) ?_ (fun _=>⟨by omega,?_⟩)
  ·have:n/65536<2^k:=h1;rw[Nat.pow_add];omega
  ·obtain⟨g1,g2⟩:=h2 (by omega)
   rw[show 16+k-1=16+(k-1) by omega,Nat.pow_add];omega
 ·have g16:¬(65536:Int)<=n:=by omega
  by_cases h8:256<=n
  ·have g8:(256:Int)<=n:=by omega
   have e1:(n:Int)/256=(n/256:Nat):=by omega
   simp -implicitDefEqProofs (disch:=first|exact dsc|fail)[-A8w,B05,B04,g16,g8,C66,Int.fdiv_eq_ediv_of_nonneg,wrap_i64];rw[e1]at *;refine tab (n/256) 8 (by omega) (by omega) fun k hk h1 h2=>hq _ (by omega) ?_ (fun _=>⟨by omega,?_⟩)
   ·rw[Nat.pow_add];omega
   ·obtain⟨g1,g2⟩:=h2 (by omega)
    rw[show 8+k-1=8+(k-1) by omega,Nat.pow_add];omega
  ·have g8:¬(256:Int)<=n:=by omega
   simp -implicitDefEqProofs (disch:=first|exact dsc|fail)[-A8w,B05,B04,g16,g8];exact tab n 0 (by omega) (by omega) fun k hk h1 h2=>hq _ (by omega) (by simpa using h1) (by simpa using h2)
theorem B97{n:Nat}(hn:n<16777216){Q:Post}{s:St}(hq:∀k:Nat,k<=24->n<2^k->(0<n->1<=k/\2^(k-1)<=n)->Q (.int .i64 k) s):CC X 67 [.int .u64 n] Q s:=by
 refine G4c rfl ?_
 try simp -implicitDefEqProofs (disch:=first|exact dsc|fail)[]
 refine C9b hn fun k h1 h2 h3=>?_
 try simp -implicitDefEqProofs (disch:=first|exact dsc|fail)[]
 exact hq k h1 h2 h3
theorem B3m{n:Nat}(hn:n<16777216)(h0:0<n){Q:Post}{s:St}(hq:∀m:Nat,n<m->m<=2*n->Q (.int .u64 m) s):CC X 143 [.int .i64 n] Q s:=by
 refine F2c rfl ?_
 try simp -implicitDefEqProofs (disch:=first|exact dsc|fail)[]
 refine B97 hn fun k h1 h2 h3=>?_;obtain⟨g1,g2⟩:=h3 h0;have e2:2^k=2*2^(k-1):=by
  conv=>lhs;rw[show k=k-1+1 by omega,Nat.pow_succ]
  omega
 have hmin:min k 64=k:=by omega
 have e3:(2:Int)^k=((2^k:Nat):Int):=by simp
 try simp -implicitDefEqProofs (disch:=first|exact dsc|fail)[hmin]
 rw[e3];have hlt:2^k<=33554432:=by omega
 generalize 2^k=q at *;exact hq q h2 (by omega)
theorem C6j{p:Nat}{r:Int}{Q:Post}{s:St}(hp:s.heap p=some (.cells [.int .u64 r] false))(hq:∀r':Int,Q (.int .u64 r') (s.put p (.cells [.int .u64 r'] false))):CC X 144 [.pointer (some ⟨p,0,none⟩)] Q s:=by
 refine F5q rfl ?_
 try simp -implicitDefEqProofs (disch:=first|exact dsc|fail)[hp]
 exact A0a (hq _)
theorem D7e{v:Value}{ρ:Option Nat}{xs:List Int}{a b:Nat}{Q:Post}{s:St}(hv:(intE .u64).Own s v ρ xs)(hlen:xs.length<1000000000)(hab:a<=b)(hb:b<=xs.length)
  (hq:∀S ys,(intE .u64).Own S v ρ ys->Chg s S (Row ρ)->Sw a b xs ys->Srt ys a b->Q (.tuple #[]) S):CC X 102 [v,.int .i64 a,.int .i64 b] Q s:=by
 refine F1s rfl ?_
 try simp -implicitDefEqProofs (disch:=first|exact dsc|fail)[]
 refine C98 fun I hI=>?_;have key:∀k i:Nat,i+k=b+1->a+1<=i->∀S ys,(intE .u64).Own S v ρ ys->Chg s S (Row ρ)->Sw a b xs ys->Srt ys a i->I v (.int .i64 a) (.int .i64 b) (.int .i64 i) S:=by
  intro k;induction k with
  | zero=>
   intro i hk hi S ys hS hc hsw hsr;refine hI _ _ _ _ _ ?_;have h1:¬i<b:=by omega
   try simp -implicitDefEqProofs (disch:=first|exact dsc|fail)[h1]
   exact A0a (hq S ys hS hc hsw (fun p q h1 h2 h3=>hsr p q h1 h2 (by omega)))
  | succ k ih=>
   intro i hk hi S ys hS hc hsw hsr;refine hI _ _ _ _ _ ?_;by_cases hib:i<b
   ·try simp -implicitDefEqProofs (disch:=first|exact dsc|fail)[hib]
    refine D0h fun I2 hI2=>?_;have inner:∀m j:Nat,j=a+m->j<=i->∀S ys,(intE .u64).Own S v ρ ys->Chg s S (Row ρ)->Sw a b xs ys->(∀p q,a<=p->p<q->q<=i->p≠j->q≠j->gt ys p<=gt ys q)->(∀q,j<q->q<=i->gt ys j<=gt ys q)->
      I2 v (.int .i64 a) (.int .i64 b) (.int .i64 i) (.int .i64 j) S:=by
     intro m;induction m with
     | zero=>
      intro j hj hji S ys hS hc hsw h1 h2;refine hI2 _ _ _ _ _ _ ?_;have hja:¬a<j:=by omega
      try simp -implicitDefEqProofs (disch:=first|exact dsc|fail)[hja]
      have:=ih (i+1) (by omega) (by omega) S ys hS hc hsw (fun p q g1 g2 g3=>by
       by_cases hp:p=j
       ·subst hp;exact h2 q g2 (by omega)
       ·exact h1 p q g1 g2 (by omega) hp (by omega))
      simpa using this
     | succ m ihm=>
      intro j hj hji S ys hS hc hsw h1 h2;refine hI2 _ _ _ _ _ _ ?_;have hl:=hsw.length;have hja:a<j:=by omega
      have hjl:j<ys.length:=by omega
      have hj1:(j:Int)-1=(j-1:Nat):=by omega
      have hj1l:j-1<ys.length:=by omega
      have hSI:=hS.in_
      try simp -implicitDefEqProofs (disch:=first|exact dsc|fail)[hja,hj1,hSI.idx,hSI.get]
      refine A6w ?_;by_cases hlt:gt ys j<gt ys (j-1)
      ·try simp -implicitDefEqProofs (disch:=first|exact dsc|fail)[hlt,hja,hj1,hSI.idx,hSI.get]
       refine A0x hS hjl hj1l rfl rfl A1f (by simp) (by omega) fun S' g1 g2 g3=>?_
       try simp -implicitDefEqProofs (disch:=first|exact dsc|fail)[hj1]
       have hg:∀k,gt (swp ys j (j-1)) k=if k=j-1 then gt ys j else if k=j then gt ys (j-1)else gt ys k:=fun k=>A20 hjl hj1l
       refine ihm (j-1) (by omega) (by omega) S' _ g1 (hc.trans g2 (fun b hb=>.inl hb)) (hsw.swap (by omega) (by omega) (by omega) (by omega)) (fun p q p1 p2 p3 p4 p5=>?_) (fun q q1 q2=>?_)
       ·rw[hg p,hg q,if_neg p4,if_neg p5];by_cases hpj:p=j
        ·rw[if_pos hpj,if_neg (by omega)];exact h1 (j-1) q (by omega) (by omega) p3 (by omega) (by omega)
        ·rw[if_neg hpj];by_cases hqj:q=j
         ·rw[if_pos hqj];exact h1 p (j-1) p1 (by omega) (by omega) (by omega) (by omega)
         ·rw[if_neg hqj];exact h1 p q p1 p2 p3 hpj hqj
       ·rw[hg (j-1),if_pos rfl,hg q,if_neg (by omega)]
        by_cases hqj:q=j
        ·rw[if_pos hqj];omega
        ·rw[if_neg hqj];exact h2 q (by omega) q2
      ·try simp -implicitDefEqProofs (disch:=first|exact dsc|fail)[hlt]
       have:=ih (i+1) (by omega) (by omega) S ys hS hc hsw (fun p q g1 g2 g3=>by
        by_cases hp:p=j
        ·subst hp;exact h2 q g2 (by omega)
        ·by_cases hq:q=j
         ·subst hq;by_cases hp1:p=q-1
          ·subst hp1;omega
          ·have:=h1 p (q-1) g1 (by omega) (by omega) (by omega) (by omega);omega
         ·exact h1 p q g1 g2 (by omega) hp hq)
       simpa using this
    exact inner (i-a) i (by omega) (by omega) S ys hS hc hsw (fun p q p1 p2 p3 p4 p5=>hsr p q p1 p2 (by omega)) (fun q q1 q2=>by omega)
   ·try simp -implicitDefEqProofs (disch:=first|exact dsc|fail)[hib]
    exact A0a (hq S ys hS hc hsw (fun p q h1 h2 h3=>hsr p q h1 h2 (by omega)))
 have:=key (b-a) (a+1) (by omega) (by omega) s xs hv ⟨Nat.le_refl _,fun _ _=>rfl⟩ .refl (fun i j h1 h2 h3=>by omega)
 simpa using this
theorem D77{v:Value}{ρ:Option Nat}{xs:List Int}{a b:Nat}{Q:Post}{s:St}(hv:(intE .u64).Own s v ρ xs)(hlen:xs.length<1000000000)(hab:a<b)(hb:b<=xs.length)
  (hq:∀S ys,(intE .u64).Own S v ρ ys->Chg s S (Row ρ)->Sw a b xs ys->Q (.tuple #[]) S):CC X 106 [v,.int .i64 a,.int .i64 b] Q s:=by
 refine F0w rfl ?_
 try simp -implicitDefEqProofs (disch:=first|exact dsc|fail)[]
 refine D1r fun I hI=>?_;have key:∀k i j:Nat,j-i<=k->a<=i->j<b->∀S ys,(intE .u64).Own S v ρ ys->Chg s S (Row ρ)->Sw a b xs ys->I v (.int .i64 i) (.int .i64 j) S:=by
  intro k;induction k with
  | zero=>
   intro i j hk hi hj S ys hS hc hsw;refine hI _ _ _ _ ?_;have h1:¬i<j:=by omega
   try simp -implicitDefEqProofs (disch:=first|exact dsc|fail)[h1]
   exact A0a (hq S ys hS hc hsw)
  | succ k ih=>
   intro i j hk hi hj S ys hS hc hsw;refine hI _ _ _ _ ?_;by_cases hij:i<j
   ·have hl:=hsw.length;have hil:i<ys.length:=by omega
    have hjl:j<ys.length:=by omega
    have hSI:=hS.in_;have hj1:(j:Int)-1=(j-1:Nat):=by omega
    try simp -implicitDefEqProofs (disch:=first|exact dsc|fail)[hij,hSI.idx,hSI.get]
    refine A0x hS hil hjl rfl rfl A1f (by simp) (by omega) fun S' g1 g2 g3=>?_
    try simp -implicitDefEqProofs (disch:=first|exact dsc|fail)[hj1]
    have:=ih (i+1) (j-1) (by omega) (by omega) (by omega) S' _ g1 (hc.trans g2 (fun b hb=>.inl hb)) (hsw.swap hi (by omega) (by omega) hj)
    simpa using this
   ·try simp -implicitDefEqProofs (disch:=first|exact dsc|fail)[hij]
    exact A0a (hq S ys hS hc hsw)
 have hb1:(b:Int)-1=(b-1:Nat):=by omega
 rw[hb1];exact key b a (b-1) (by omega) (by omega) (by omega) s xs hv ⟨Nat.le_refl _,fun _ _=>rfl⟩ .refl
def Hp_u(xs:List Int)(f lo hi but:Nat):Prop:=∀k c,lo<=k->k≠but->(c=2*k+1\/c=2*k+2)->c<hi->gt xs (f+c)<=gt xs (f+k)
theorem B70{v:Value}{ρ:Option Nat}{xs:List Int}{lo hi f:Nat}{Q:Post}{s:St}(hv:(intE .u64).Own s v ρ xs)(hlen:xs.length<1000000000)(hlo:lo<hi)(hb:f+hi<=xs.length)(hh:Hp_u xs f lo hi lo)
  (hq:∀S ys,(intE .u64).Own S v ρ ys->Chg s S (Row ρ)->Sw (f+lo) (f+hi) xs ys->Hp_u ys f lo hi hi->Q (.tuple #[]) S):CC X 142 [v,.int .i64 lo,.int .i64 hi,.int .i64 f] Q s:=by
 refine D6y rfl ?_
 try simp -implicitDefEqProofs (disch:=first|exact dsc|fail)[]
 refine B7m fun I hI=>?_;have key:∀k r:Nat,hi-r<=k->lo<=r->r<hi->∀S ys,(intE .u64).Own S v ρ ys->Chg s S (Row ρ)->Sw (f+lo) (f+hi) xs ys->Hp_u ys f lo hi r->(∀p c,lo<=p->(r=2*p+1\/r=2*p+2)->(c=2*r+1\/c=2*r+2)->c<hi->gt ys (f+c)<=gt ys (f+p))->
   I v (.int .i64 hi) (.int .i64 f) (.int .i64 r) S:=by
  intro k;induction k with
  | zero=>intro r hk _ hr;omega
  | succ k ih=>
   intro r hk hlr hr S ys hS hc hsw h1 h2;refine hI _ _ _ _ _ ?_;have hl:=hsw.length;have hSI:=hS.in_;by_cases hc1:2*r+1<hi
   ·-- the child that is greater
    have go:∀(c:Nat) (ci:Int),ci=c->(c=2*r+1\/c=2*r+2)->c<hi->(∀d,(d=2*r+1\/d=2*r+2)->d<hi->gt ys (f+d)<=gt ys (f+c))->
      A79 (CC X) (B9a (CC X) Q s) I v (.int .i64 hi) (.int .i64 f) (.int .i64 r) (.int .i64 ci) S:=by
     rintro c _ rfl hcc hch hmax;have hfr:f+r<ys.length:=by omega
     have hfc:f+c<ys.length:=by omega
     try simp -implicitDefEqProofs (disch:=first|exact dsc|fail)[hSI.idx,hSI.get]
     refine A6w ?_;by_cases hlt:gt ys (f+r)<gt ys (f+c)
     ·try simp -implicitDefEqProofs (disch:=first|exact dsc|fail)[hlt,hSI.idx,hSI.get]
      refine A0x hS hfr hfc rfl rfl A1f (by simp) (by omega) fun S' g1 g2 g3=>?_
      have hg:∀k,gt (swp ys (f+r) (f+c)) k=if k=f+c then gt ys (f+r)else if k=f+r then gt ys (f+c)else gt ys k:=fun k=>A20 hfr hfc
      refine ih c (by omega) (by omega) hch S' _ g1 (hc.trans g2 (fun b hb=>.inl hb)) (hsw.swap (by omega) (by omega) (by omega) (by omega)) (fun p d p1 p2 p3 p4=>?_) (fun p d p1 p2 p3 p4=>?_)
      ·rw[hg,hg];by_cases hpr:p=r
       ·subst hpr;rw[if_neg (show ¬f+p=f+c by omega),if_pos rfl]
        by_cases hdc:d=c
        ·rw[if_pos (by omega)];omega
        ·rw[if_neg (by omega),if_neg (by omega)];exact hmax d p3 p4
       ·rw[if_neg (show ¬f+p=f+c by omega),if_neg (show ¬f+p=f+r by omega)]
        have:=h1 p d p1 hpr p3 p4;by_cases hdc:d=c
        ·omega
        ·by_cases hdr:d=r
         ·subst hdr;rw[if_neg (by omega),if_pos rfl]
          exact h2 p c p1 p3 hcc hch
         ·rw[if_neg (by omega),if_neg (by omega)];exact this
      ·have hpr:p=r:=by omega
       subst hpr;rw[hg,hg,if_neg (show ¬f+d=f+c by omega),if_neg (show ¬f+d=f+p by omega),if_neg (show ¬f+p=f+c by omega),if_pos rfl]
       exact h1 c d (by omega) (by omega) p3 p4
     ·try simp -implicitDefEqProofs (disch:=first|exact dsc|fail)[hlt]
      exact A0a (hq S ys hS hc hsw (fun p d p1 p2 p3 p4=>by
       by_cases hpr:p=r
       ·subst hpr;have:=hmax d p3 p4;omega
       ·exact h1 p d p1 hpr p3 p4))
    have hcn:¬(hi:Int)<=2*r+1:=by omega
    have t1:((f:Int)+(2*r+1)).toNat=f+(2*r+1):=by omega
    have t2:((f:Int)+(2*r+1)+1).toNat=f+(2*r+2):=by omega
    by_cases hc2:2*r+2<hi
    ·have hd2:2*(r:Int)+1+1<(hi:Int):=by omega
     simp -implicitDefEqProofs (disch:=first|exact dsc|fail)[-B01,-A79,wrap_i64,A0n,B0k,hcn,hd2,t1,t2,hSI.idx,hSI.get];refine A6w ?_;by_cases hlt:gt ys (f+(2*r+1))<gt ys (f+(2*r+2))
     ·simp -implicitDefEqProofs (disch:=first|exact dsc|fail)[-B01,-A79,-B0k,hlt];exact go (2*r+2) _ (by omega) (.inr rfl) hc2 (fun d hd _=>by rcases hd with h|h<;>subst h<;>omega)
     ·simp -implicitDefEqProofs (disch:=first|exact dsc|fail)[-B01,-A79,-B0k,hlt];exact go (2*r+1) _ (by omega) (.inl rfl) hc1 (fun d hd _=>by rcases hd with h|h<;>subst h<;>omega)
    ·have hd2:¬2*(r:Int)+1+1<(hi:Int):=by omega
     simp -implicitDefEqProofs (disch:=first|exact dsc|fail)[-B01,-A79,wrap_i64,A0n,B0k,hcn,hd2];exact go (2*r+1) _ (by omega) (.inl rfl) hc1 (fun d hd hdh=>by rcases hd with h|h<;>subst h<;>omega)
   ·have hcn:(hi:Int)<=2*r+1:=by omega
    try simp -implicitDefEqProofs (disch:=first|exact dsc|fail)[hcn]
    exact A0a (hq S ys hS hc hsw (fun p d p1 p2 p3 p4=>h1 p d p1 (by intro e;subst e;omega) p3 p4))
 exact key hi lo (by omega) (Nat.le_refl _) hlo s xs hv ⟨Nat.le_refl _,fun _ _=>rfl⟩ .refl hh (fun p c p1 p2=>by omega)
theorem C87{v:Value}{ρ:Option Nat}{xs:List Int}{a b:Nat}{Q:Post}{s:St}(hv:(intE .u64).Own s v ρ xs)(hlen:xs.length<1000000000)(hab:a<b)(hb:b<=xs.length)
  (hq:∀S ys,(intE .u64).Own S v ρ ys->Chg s S (Row ρ)->Sw a b xs ys->Srt ys a b->Q (.tuple #[]) S):CC X 103 [v,.int .i64 a,.int .i64 b] Q s:=by
 refine F8d rfl ?_
 try simp -implicitDefEqProofs (disch:=first|exact dsc|fail)[]
 obtain⟨n,hn⟩:∃n,n=b-a:=⟨_,rfl⟩;have hnb:(b:Int)-a=n:=by omega
 have hm:((n:Int)-1)/2=((n-1)/2:Nat):=by omega
 rw[hnb];refine C8b fun I hI=>?_;have fin:∀S ys,(intE .u64).Own S v ρ ys->Chg s S (Row ρ)->Sw a b xs ys->Hp_u ys a 0 n n->
   C0z (CC X) Q s v (.int .i64 a) (.int .i64 0) (.int .i64 n) S:=by
  intro S ys hS hc hsw hh;have hn1:(n:Int)-1=(n-1:Nat):=by omega
  try simp -implicitDefEqProofs (disch:=first|exact dsc|fail)[hn1]
  refine D0k fun I2 hI2=>?_;have top0:∀(ys:List Int) (m:Nat),Hp_u ys a 0 m m->∀c,c<m->gt ys (a+c)<=gt ys a:=by
   intro ys m hh c;induction c using Nat.strongRecOn with
   | _ c ih=>
    intro hcm;by_cases hc0:c=0
    ·subst hc0;simp
    ·have h1:=hh ((c-1)/2) c (Nat.zero_le _) (by omega) (by omega) hcm
     have h2:=ih ((c-1)/2) (by omega) (by omega)
     omega
  have key:∀m:Nat,m<=n->∀S ys,(intE .u64).Own S v ρ ys->Chg s S (Row ρ)->Sw a b xs ys->Hp_u ys a 0 m m->(∀i j,i<m->m<=j->j<n->gt ys (a+i)<=gt ys (a+j))->(∀i j,m<=i->i<j->j<n->gt ys (a+i)<=gt ys (a+j))->
    I2 v (.int .i64 a) (.int .i64 0) (.int .i64 ((m:Int)-1)) S:=by
   intro m;induction m with
   | zero=>
    intro _ S ys hS hc hsw hh h1 h2;refine hI2 _ _ _ _ _ ?_
    try simp -implicitDefEqProofs (disch:=first|exact dsc|fail)[]
    exact A0a (hq S ys hS hc hsw (fun i j g1 g2 g3=>by
     have:=h2 (i-a) (j-a) (by omega) (by omega) (by omega)
     rwa [show a+(i-a)=i by omega,show a+(j-a)=j by omega]at this))
   | succ m ih=>
    intro hmn S ys hS hc hsw hh h1 h2;refine hI2 _ _ _ _ _ ?_;have hl:=hsw.length;have hSI:=hS.in_;have e1:((m+1:Nat):Int)-1=m:=by omega
    have hal:a<ys.length:=by omega
    have ham:a+m<ys.length:=by omega
    rw[e1]
    try simp -implicitDefEqProofs (disch:=first|exact dsc|fail)[hSI.idx,hSI.get]
    refine A0x hS hal ham rfl rfl A1f (by simp) (by omega) fun S' g1 g2 g3=>?_
    try simp -implicitDefEqProofs (disch:=first|exact dsc|fail)[]
    have hg:∀k,gt (swp ys a (a+m)) k=if k=a+m then gt ys a else if k=a then gt ys (a+m)else gt ys k:=fun k=>A20 hal ham
    have hsw1:=hsw.swap (i:=a) (j:=a+m) (Nat.le_refl _) (by omega) (by omega) (by omega)
    have htop:=top0 ys (m+1) hh;have next:∀S2 zs,(intE .u64).Own S2 v ρ zs->Chg s S2 (Row ρ)->Sw a (a+m) (swp ys a (a+m)) zs->Hp_u zs a 0 m m->I2 v (.int .i64 a) (.int .i64 0) (.int .i64 ((m:Int)-1)) S2:=by
     intro S2 zs hS2 hc2 hsz hhz;have hlz:a+m<=(swp ys a (a+m)).length:=by simp;omega
     have hout:∀k,m<=k->gt zs (a+k)=gt (swp ys a (a+m)) (a+k):=fun k hk=>hsz.out hlz (.inr (by omega))
     refine ih (by omega) S2 zs hS2 hc2 (hsw1.trans (hsz.mono (Nat.le_refl _) (by omega))) hhz (fun i j p1 p2 p3=>?_) (fun i j p1 p2 p3=>?_)
     ·rw[hout j p2];refine hsz.all hlz (p:=fun x=>x<=gt (swp ys a (a+m)) (a+j)) (fun k k1 k2=>?_) (a+i) (by omega) (by omega)
      rw[hg,hg,if_neg (show ¬k=a+m by omega)]
      by_cases hjm:j=m
      ·subst hjm;rw[if_pos rfl];split
       ·exact htop j (by omega)
       ·have:=htop (k-a) (by omega);rwa [show a+(k-a)=k by omega]at this
      ·rw[if_neg (show ¬a+j=a+m by omega),if_neg (show ¬a+j=a by omega)]
       split
       ·exact h1 m j (by omega) (by omega) p3
       ·have:=h1 (k-a) j (by omega) (by omega) p3;rwa [show a+(k-a)=k by omega]at this
     ·rw[hout i p1,hout j (by omega),hg,hg,if_neg (show ¬a+j=a+m by omega),if_neg (show ¬a+j=a by omega)]
      by_cases him:i=m
      ·subst him;rw[if_pos rfl];exact h1 0 j (by omega) (by omega) p3
      ·rw[if_neg (by omega),if_neg (by omega)]
       exact h2 i j (by omega) p2 p3
    have hch1:=hc.trans g2 (fun b hb=>Or.inl hb);by_cases hm0:m=0
    ·subst hm0;have hsd:CC X 142 [v,.int .i64 0,.int .i64 0,.int .i64 a] (fun _ S3=>I2 v (.int .i64 a) (.int .i64 0) (.int .i64 (-1)) S3) S':=by
      refine D6y rfl ?_;simp -implicitDefEqProofs (disch:=first|exact dsc|fail)[-B01,-A79,-B0k,E79];refine B7m fun I3 hI3=>hI3 _ _ _ _ _ ?_
      try simp -implicitDefEqProofs (disch:=first|exact dsc|fail)[]
      have:=next S' _ g1 hch1 .refl (fun k c p1 p2 p3 p4=>by omega)
      simpa using this
     simp only[Int.ofNat_zero,Int.natCast_zero,Int.zero_sub]at *;refine A6p hsd fun _ S3 h3=>?_
     try simp -implicitDefEqProofs (disch:=first|exact dsc|fail)[]
     exact h3
    ·refine(B70 (lo:=0) g1 (by simp;omega) (by omega) (by simp;omega) (fun k c p1 p2 p3 p4=>?_) fun S2 zs q1 q2 q3 q4=>?_:CC X 142 [v,.int .i64 (0:Nat),.int .i64 m,.int .i64 a] _ S')
     ·rw[hg,hg,if_neg (show ¬a+c=a+m by omega),if_neg (show ¬a+c=a by omega),if_neg (show ¬a+k=a+m by omega),if_neg (show ¬a+k=a by omega)]
      exact hh k c (Nat.zero_le _) (by omega) p3 (by omega)
     ·try simp -implicitDefEqProofs (disch:=first|exact dsc|fail)[]
      exact next S2 zs q1 (hch1.trans q2 (fun b hb=>.inl hb)) (by simpa using q3) q4
  have:=key n (Nat.le_refl _) S ys hS hc hsw hh (fun i j h1 h2 h3=>by omega) (fun i j h1 h2 h3=>by omega)
  rwa [hn1]at this
 have key:∀m:Nat,2*m<=n+1->∀S ys,(intE .u64).Own S v ρ ys->Chg s S (Row ρ)->Sw a b xs ys->Hp_u ys a m n n->I v (.int .i64 a) (.int .i64 0) (.int .i64 n) (.int .i64 ((m:Int)-1)) S:=by
  intro m;induction m with
  | zero=>
   intro _ S ys hS hc hsw hh;refine hI _ _ _ _ _ _ ?_;simp -implicitDefEqProofs (disch:=first|exact dsc|fail)[-C1c,-C3z,-C5r,-C3m,-C0z];exact fin S ys hS hc hsw hh
  | succ m ih=>
   intro hmn S ys hS hc hsw hh;refine hI _ _ _ _ _ _ ?_;have hl:=hsw.length;have e1:((m+1:Nat):Int)-1=m:=by omega
   rw[e1];simp -implicitDefEqProofs (disch:=first|exact dsc|fail)[-C1c,-C5r,-C3m,-C0z,-B01,-A79,-B0k,wrap_i64,A0n,C3z];refine B70 (lo:=m) hS (by omega) (by omega) (by omega) (fun k c p1 p2 p3 p4=>hh k c (by omega) (by omega) p3 p4) fun S2 zs q1 q2 q3 q4=>?_
   simp -implicitDefEqProofs (disch:=omega) [wrap_i64,C1c];exact ih (by omega) S2 zs q1 (hc.trans q2 (fun b hb=>.inl hb)) (hsw.trans (q3.mono (by omega) (by omega))) q4
 by_cases h2:n=1
 ·subst h2;have:=key 1 (by omega) s xs hv ⟨Nat.le_refl _,fun _ _=>rfl⟩ .refl (fun k c p1 p2 p3 p4=>by omega)
  simpa using this
 ·have:=key ((n-1)/2+1) (by omega) s xs hv ⟨Nat.le_refl _,fun _ _=>rfl⟩ .refl (fun k c p1 p2 p3 p4=>by omega)
  rw[hm];simpa using this
structure B9j(s S:St)(p:Nat)(v:Value)(xs:List Int)(K:Int):Prop where
 in_:(intE .u64).In S v xs
 hp:∃c:Int,S.heap p=some (.cells [.int .i64 c] false)/\0<=c/\c<=K
 ge:s.next<=p
 lt:p<S.next
 old:Old s S
theorem B8s{s S:St}{p:Nat}{v:Value}{xs:List Int}{K:Int}(h:B9j s S p v xs K)(hK:K<1000)(hlen:xs.length<1000000000)(hvs:Bel s.next v){a b:Nat}(ha:a<xs.length)(hb:b<xs.length){Q:Post}
  (hq:∀x y S',B9j s S' p v xs (K+1)->(x=a/\y=b\/x=b/\y=a)->Q (.tuple #[.int .i64 (x:Nat),.int .i64 (y:Nat)]) S') :
  CC X 167 [v,.int .i64 a,.int .i64 b,.pointer (some ⟨p,0,none⟩)] Q S:=by
 refine F60 rfl ?_;have hI:=h.in_;obtain⟨c,hc,hc0,hc1⟩:=h.hp
 try simp -implicitDefEqProofs (disch:=first|exact dsc|fail)[hI.idx,hI.get]
 refine A6w ?_;by_cases hlt:gt xs b<gt xs a
 ·try simp -implicitDefEqProofs (disch:=first|exact dsc|fail)[hlt,hc]
  refine A0a (hq b a _ ⟨?_,⟨c+1,St.put_self,by omega,by omega⟩,h.ge,by simpa using h.lt,h.old.put h.ge⟩ (.inr ⟨rfl,rfl⟩))
  refine hI.chg (M:=fun b=>b=p) ⟨by simp,fun _ hb=>St.put_other hb⟩ (fun a l c e hm=>?_)
  rw[e]at hvs;have:=h.ge;simp at hvs;omega
 ·try simp -implicitDefEqProofs (disch:=first|exact dsc|fail)[hlt]
  exact hq a b S ⟨hI,⟨c,hc,hc0,by omega⟩,h.ge,h.lt,h.old⟩ (.inl ⟨rfl,rfl⟩)
theorem C6l{s S:St}{p:Nat}{v:Value}{xs:List Int}{K:Int}(h:B9j s S p v xs K)(hK:K<900)(hlen:xs.length<1000000000)(hvs:Bel s.next v){a b c:Nat}(ha:a<xs.length)(hb:b<xs.length)(hc:c<xs.length){Q:Post}
  (hq:∀x S',B9j s S' p v xs (K+3)->(x=a\/x=b\/x=c)->Q (.int .i64 (x:Nat)) S') :
  CC X 146 [v,.int .i64 a,.int .i64 b,.int .i64 c,.pointer (some ⟨p,0,none⟩)] Q S:=by
 refine F2v rfl ?_
 try simp -implicitDefEqProofs (disch:=first|exact dsc|fail)[]
 refine B8s h (by omega) hlen hvs ha hb fun x y S1 h1 e1=>?_
 try simp -implicitDefEqProofs (disch:=first|exact dsc|fail)[]
 refine B8s h1 (by omega) hlen hvs (by omega) hc fun x2 y2 S2 h2 e2=>?_
 try simp -implicitDefEqProofs (disch:=first|exact dsc|fail)[]
 refine B8s h2 (by omega) hlen hvs (by omega) (by omega) fun x3 y3 S3 h3 e3=>?_
 try simp -implicitDefEqProofs (disch:=first|exact dsc|fail)[]
 exact A0a (hq y3 S3 (by have:=h3;rwa [show K+1+1+1=K+3 by omega]at this) (by omega))
theorem B0h{s S:St}{p:Nat}{v:Value}{xs:List Int}{K:Int}(h:B9j s S p v xs K)(hK:K<900)(hlen:xs.length<1000000000)(hvs:Bel s.next v){a:Nat}(h0:0<a)(ha:a+1<xs.length){Q:Post}
  (hq:∀x S',B9j s S' p v xs (K+3)->a-1<=x->x<=a+1->Q (.int .i64 (x:Nat)) S') :
  CC X 145 [v,.int .i64 a,.pointer (some ⟨p,0,none⟩)] Q S:=by
 refine F43 rfl ?_
 try simp -implicitDefEqProofs (disch:=first|exact dsc|fail)[]
 have e1:(a:Int)-1=(a-1:Nat):=by omega
 have:=C6l (X:=X) (a:=a-1) (b:=a) (c:=a+1) h hK hlen hvs (by omega) (by omega) ha (Q:=fun v S'=>kEnd Q S (some v) S') (fun x S' h1 e=>A0a (hq x S' h1 (by omega) (by omega)))
 rw[<-e1]at this;refine A6p (by simpa using this) fun v S' h=>?_
 try simp -implicitDefEqProofs (disch:=first|exact dsc|fail)[]
 exact h
theorem F4g{v:Value}{xs:List Int}{a b:Nat}{Q:Post}{s:St}(hv:(intE .u64).In s v xs)(hlen:xs.length<1000000000)(hab:a+12<b)(hb:b<=xs.length)
  (hq:∀(p:Nat) (h:Int),a<=p->p<b->Q (.tuple #[.int .i64 p,.int .i64 h]) s):CC X 105 [v,.int .i64 a,.int .i64 b] Q s:=by
 refine E96 rfl ?_;obtain⟨l,hl⟩:∃l,l=b-a:=⟨_,rfl⟩;have e0:(b:Int)-a=l:=by omega
 have e8:(8:Int)<=l:=by omega
 have hP0:B9j s (s.alloc (.cells [.int .i64 0] false)) s.next v xs 0:=⟨hv.old (by simp),⟨0,by simp,by omega,by omega⟩,Nat.le_refl _,by simp,by simp⟩
 obtain⟨i,hi⟩:∃i,i=a+l/4*1:=⟨_,rfl⟩;obtain⟨j,hj⟩:∃j,j=a+l/4*2:=⟨_,rfl⟩;obtain⟨k,hk⟩:∃k,k=a+l/4*3:=⟨_,rfl⟩;have fin:∀(x:Nat) S',B9j s S' s.next v xs 12->a<=x->x<b->B0d (CC X) Q s (.pointer (some ⟨s.next,0,none⟩)) (.int .i64 x) S':=by
  intro x S' h hx1 hx2;obtain⟨c,hc,hc0,hc1⟩:=h.hp
  try simp -implicitDefEqProofs (disch:=first|exact dsc|fail)[hc]
  have hk:∀h:Int,kEnd Q s (some (.tuple #[.int .i64 x,.int .i64 h])) S':=fun h2=>A0b h.old (A0p (by simp)) (hq x h2 hx1 hx2)
  split
  ·exact hk _
  ·split<;>exact hk _
 have mid:∀(x y z:Nat) S' K,B9j s S' s.next v xs K->K<=9->a<=x->x<b->a<=y->y<b->a<=z->z<b->A9d (CC X) Q s v (.pointer (some ⟨s.next,0,none⟩)) (.int .i64 x) (.int .i64 y) (.int .i64 z) S':=by
  intro x y z S' K h hK hx1 hx2 hy1 hy2 hz1 hz2;simp -implicitDefEqProofs [A0n,A9d];refine C6l h (by omega) hlen hv.bel (by omega) (by omega) (by omega) fun w S2 h2 e=>?_
  refine fin w S2 ⟨h2.in_,?_,h2.ge,h2.lt,h2.old⟩ (by omega) (by omega)
  obtain⟨c,hc,hc0,hc1⟩:=h2.hp;exact⟨c,hc,hc0,by omega⟩
 have ei:(a:Int)+(l:Int)/4*1=i:=by omega
 have ej:(a:Int)+(l:Int)/4*2=j:=by omega
 have ek:(a:Int)+(l:Int)/4*3=k:=by omega
 have ei':(a:Int)+(l:Int)/4=i:=by omega
 have hl4:¬(l:Int)<0:=by omega
 by_cases h50:(50:Int)<=l
 ·try simp -implicitDefEqProofs (disch:=first|exact dsc|fail)[-B0d,-A9d,e0,e8,ei,ei',ej,ek,h50]
  refine B0h hP0 (by omega) hlen hv.bel (by omega) (by omega) fun x S1 h1 x1 x2=>?_
  simp -implicitDefEqProofs (disch:=first|exact dsc|fail)[-B0d,-A9d];refine B0h h1 (by omega) hlen hv.bel (by omega) (by omega) fun y S2 h2 y1 y2=>?_
  simp -implicitDefEqProofs (disch:=first|exact dsc|fail)[-B0d,-A9d];refine B0h h2 (by omega) hlen hv.bel (by omega) (by omega) fun z S3 h3 z1 z2=>?_
  exact mid x y z S3 _ h3 (by omega) (by omega) (by omega) (by omega) (by omega) (by omega) (by omega)
 ·try simp -implicitDefEqProofs (disch:=first|exact dsc|fail)[-B0d,-A9d,e0,e8,ei,ei',ej,ek,h50]
  exact mid i j k _ _ hP0 (by omega) (by omega) (by omega) (by omega) (by omega) (by omega) (by omega)
theorem D0a{v:Value}{ρ:Option Nat}{xs:List Int}{a b:Nat}{Q:Post}{s:St}(hv:(intE .u64).Own s v ρ xs)(hlen:xs.length<16000000)(hab:a+12<b)(hb:b<=xs.length)
  (hq:∀S ys,(intE .u64).Own S v ρ ys->Chg s S (Row ρ)->Sw a b xs ys->Q (.tuple #[]) S):CC X 104 [v,.int .i64 a,.int .i64 b] Q s:=by
 refine F23 rfl ?_;obtain⟨l,hl⟩:∃l,l=b-a:=⟨_,rfl⟩;have e0:(b:Int)-a=l:=by omega
 have e8:(8:Int)<=l:=by omega
 have hρ:∀x,ρ=some x->x<s.next:=fun x hx=>by subst hx;exact hv.lt
 try simp -implicitDefEqProofs (disch:=first|exact dsc|fail)[e0,e8]
 refine B3m (n:=l) (by omega) (by omega) fun m hm1 hm2=>?_
 have e1:(a:Int)+(l:Int)/4*2-1=(a+l/4*2-1:Nat):=by omega
 try simp -implicitDefEqProofs (disch:=first|exact dsc|fail)[e1]
 refine D15 fun I hI=>?_;have key:∀k i:Nat,i+k=a+l/4*2+2->a+l/4*2-1<=i->∀S ys r,(intE .u64).Own S v ρ ys->Chg s S (Row ρ)->S.heap s.next=some (.cells [.int .u64 r] false)->s.next<S.next->Sw a b xs ys->
   I v (.int .i64 a) (.int .i64 l) (.pointer (some ⟨s.next,0,none⟩)) (.int .u64 m) (.int .i64 i) S:=by
  intro k;induction k with
  | zero=>
   intro i hk hi S ys r hS hc hp hn hsw;refine hI _ _ _ _ _ _ _ ?_;have h1:¬(i:Int)<=a+(l:Int)/4*2+1:=by omega
   try simp -implicitDefEqProofs (disch:=first|exact dsc|fail)[h1]
   exact A0a (hq S ys hS hc hsw)
  | succ k ih=>
   intro i hk hi S ys r hS hc hp hn hsw;refine hI _ _ _ _ _ _ _ ?_;have h1:(i:Int)<=a+(l:Int)/4*2+1:=by omega
   try simp -implicitDefEqProofs (disch:=first|exact dsc|fail)[-B5f,-B0n,-B4h,h1]
   simp -implicitDefEqProofs (disch:=first|exact dsc|fail)[-B5f,-B0n,A0n,B4h];refine C6j hp fun r'=>?_;obtain⟨b1,b2⟩:=D7j (a:=r') (b:=(m:Int)-1) (by omega) (by omega)
   have hne:some s.next≠ρ:=fun e=>by have:=hρ _ e.symm;omega
   have hS1:(intE .u64).Own (S.put s.next (.cells [.int .u64 r'] false)) v ρ ys:=hS.same (by simp) (fun b hb=>St.put_other (fun e=>hne (by rw[hb,e])))
   have hc1:Chg s (S.put s.next (.cells [.int .u64 r'] false)) (Row ρ):=⟨by simpa using hc.le,fun {b} hb hm=>by rw[St.put_other (by omega)];exact hc.eq hb hm⟩
   have hlen2:=hsw.length;have go:∀o:Nat,o<l->B0n (CC X) (C34 (CC X) Q s) I v (.int .i64 a) (.int .i64 l) (.pointer (some ⟨s.next,0,none⟩)) (.int .u64 m) (.int .i64 i) (.int .i64 o) (S.put s.next (.cells [.int .u64 r'] false)):=by
    intro o ho;have hi1:i<ys.length:=by omega
    have hao:a+o<ys.length:=by omega
    try simp -implicitDefEqProofs (disch:=first|exact dsc|fail)[hS1.in_.idx,hS1.in_.get]
    refine A0x hS1 hi1 hao rfl rfl A1f (by simp) (by omega) fun S' g1 g2 g3=>?_
    try simp -implicitDefEqProofs (disch:=first|exact dsc|fail)[]
    have:=ih (i+1) (by omega) (by omega) S' _ r' g1 (hc1.trans g2 (fun b hb=>.inl hb)) (by rw[g2.eq (by simpa using hn) (fun e=>hne e.symm)];simp) (by rw[g3];simpa using hn) (hsw.swap (by omega) (by omega) (by omega) (by omega))
    simpa using this
   obtain⟨o,ho⟩:∃o:Nat,bits .and .u64 r' ((m:Int)-1)=o:=⟨(bits .and .u64 r' ((m:Int)-1)).toNat,by omega⟩
   rw[ho]at b1 b2;by_cases hol:l<=o
   ·have hol':(l:Int)<=o:=by omega
    have e2:(o:Int)-l=(o-l:Nat):=by omega
    simp -implicitDefEqProofs (disch:=first|exact dsc|fail)[-B5f,-B0n,-B4h,ho,hol'];rw[e2];exact go (o-l) (by omega)
   ·have hol':¬(l:Int)<=o:=by omega
    simp -implicitDefEqProofs (disch:=first|exact dsc|fail)[-B5f,-B0n,-B4h,ho,hol'];exact go o (by omega)
 have:=key 3 (a+l/4*2-1) (by omega) (Nat.le_refl _) _ xs (IntKind.u64.wrap l) (hv.same (s':=s.alloc (.cells [.int .u64 (IntKind.u64.wrap l)] false)) (by simp) (fun b hb=>St.alloc_old (hρ b hb))) (Old.chg (by simp)) St.alloc_self (by simp) .refl
 have hw:IntKind.u64.wrap (l:Int)=l:=A65 (by omega) (by omega)
 rw[hw]at this;simpa using this
theorem E4h{v:Value}{ρ:Option Nat}{xs:List Int}{a b p:Nat}{Q:Post}{s:St}(hv:(intE .u64).Own s v ρ xs)(hlen:xs.length<16000000)(hap:a<=p)(hpb:p<b)(hb:b<=xs.length)
  (hq:∀S ys (m:Nat),(intE .u64).Own S v ρ ys->Chg s S (Row ρ)->Sw a b xs ys->a<m->m<=b->(∀i,a<=i->i<m->gt ys i<=gt xs p)->(∀i,m<=i->i<b->gt xs p<gt ys i)->Q (.int .i64 m) S):CC X 109 [v,.int .i64 a,.int .i64 b,.int .i64 p] Q s:=by
 refine F4r rfl ?_;have hI0:=hv.in_;have hpx:p<xs.length:=by omega
 have hax:a<xs.length:=by omega
 try simp -implicitDefEqProofs (disch:=first|exact dsc|fail)[hI0.idx,hI0.get]
 refine A0x hv hax hpx rfl rfl A1f (by simp) (by omega) fun S0 g1 g2 g3=>?_
 have hb1:(b:Int)-1=(b-1:Nat):=by omega
 try simp -implicitDefEqProofs (disch:=first|exact dsc|fail)[hb1]
 refine C8o fun I hI=>?_;have hpv:gt (swp xs a p) a=gt xs p:=by
  rw[A20 hax hpx];by_cases e:a=p
  ·subst e;simp
  ·simp[e]
 let R:List Int->Nat->Nat->Prop:=fun ys i j=>Sw a b xs ys/\gt ys a=gt xs p/\a<i/\i<=j+1/\j<b/\(∀k,a<=k->k<i->gt ys k<=gt xs p)/\(∀k,j<k->k<b->gt xs p<gt ys k);have key:∀n i j:Nat,j+1-i<=n->∀S ys,(intE .u64).Own S v ρ ys->Chg s S (Row ρ)->R ys i j->I v (.int .i64 a) (.int .i64 i) (.int .i64 j) S:=by
  intro n;induction n using Nat.strongRecOn with
  | _ n ih=>
   intro i j hn S ys hS hc ⟨hsw,hpa,hai,hij,hjb,h1,h2⟩;refine hI _ _ _ _ _ ?_;have hl:=hsw.length;have hSI:=hS.in_
   try simp -implicitDefEqProofs (disch:=first|exact dsc|fail)[]
   refine D1i fun I1 hI1=>?_;have k1:∀m i:Nat,j+1-i=m->j+1-i<=n->R ys i j->I1 v (.int .i64 a) (.int .i64 i) (.int .i64 j) S:=by
    intro m;induction m with
    | zero=>
     intro i hm hn ⟨hsw,hpa,hai,hij,hjb,h1,h2⟩;refine hI1 _ _ _ _ _ ?_;have hn1:¬(i:Int)<=j:=by omega
     try simp -implicitDefEqProofs (disch:=first|exact dsc|fail)[hn1]
     refine B7t fun I2 hI2=>hI2 _ _ _ _ _ ?_;have hgt:(j:Int)<i:=by omega
     try simp -implicitDefEqProofs (disch:=first|exact dsc|fail)[hn1,hgt]
     exact A0a (hq S ys i hS hc hsw hai (by omega) h1 (fun k k1 k2=>h2 k (by omega) k2))
    | succ m ihm=>
     intro i hm hn ⟨hsw,hpa,hai,hij,hjb,h1,h2⟩;refine hI1 _ _ _ _ _ ?_;have hle:(i:Int)<=j:=by omega
     have hil:i<ys.length:=by omega
     have hal:a<ys.length:=by omega
     try simp -implicitDefEqProofs (disch:=first|exact dsc|fail)[hle,hSI.idx,hSI.get]
     refine A6w ?_;by_cases hlt:gt ys a<gt ys i
     ·try simp -implicitDefEqProofs (disch:=first|exact dsc|fail)[hlt]
      refine B7t fun I2 hI2=>?_;have k2:∀m2 j:Nat,j+1-i=m2->j+1-i<=n->R ys i j->I2 v (.int .i64 a) (.int .i64 i) (.int .i64 j) S:=by
       intro m2;induction m2 with
       | zero=>
        intro j hm hn ⟨hsw,hpa,hai,hij,hjb,h1,h2⟩;refine hI2 _ _ _ _ _ ?_;have hn1:¬(i:Int)<=j:=by omega
        have hgt:(j:Int)<i:=by omega
        try simp -implicitDefEqProofs (disch:=first|exact dsc|fail)[hn1,hgt]
        exact A0a (hq S ys i hS hc hsw hai (by omega) h1 (fun k k1 k2=>h2 k (by omega) k2))
       | succ m2 ihm2=>
        intro j hm hn ⟨hsw,hpa,hai,hij,hjb,h1,h2⟩;refine hI2 _ _ _ _ _ ?_;have hle:(i:Int)<=j:=by omega
        have hngt:¬(j:Int)<i:=by omega
        have hjl:j<ys.length:=by omega
        have hj1:(j:Int)-1=(j-1:Nat):=by omega
        try simp -implicitDefEqProofs (disch:=first|exact dsc|fail)[hle,hSI.idx,hSI.get]
        refine A6w ?_;by_cases hlt2:gt ys a<gt ys j
        ·try simp -implicitDefEqProofs (disch:=first|exact dsc|fail)[hlt2,hj1]
         exact ihm2 (j-1) (by omega) (by omega) ⟨hsw,hpa,hai,by omega,by omega,h1,fun k k1 k2=>by
          by_cases e:k=j
          ·subst e;omega
          ·exact h2 k (by omega) k2⟩
        ·try simp -implicitDefEqProofs (disch:=first|exact dsc|fail)[hlt2,hngt,hSI.idx,hSI.get]
         have hne:i≠j:=fun e=>by subst e;exact hlt2 hlt
         refine A0x hS hil hjl rfl rfl A1f (by simp) (by omega) fun S' g1 g2 g3=>?_
         have hg:∀k,gt (swp ys i j) k=if k=j then gt ys i else if k=i then gt ys j else gt ys k:=fun k=>A20 hil hjl
         try simp -implicitDefEqProofs (disch:=first|exact dsc|fail)[hj1]
         have:=ih (n-1) (by omega) (i+1) (j-1) (by omega) S' _ g1 (hc.trans g2 (fun b hb=>.inl hb)) ⟨hsw.swap (by omega) (by omega) (by omega) hjb,by rw[hg,if_neg (by omega),if_neg (by omega)];exact hpa,by omega,by omega,by omega,fun k k1 k2=>by
           rw[hg,if_neg (by omega)]
           split
           ·omega
           ·exact h1 k k1 (by omega),fun k k1 k2=>by
           rw[hg];split
           ·omega
           ·rw[if_neg (by omega)];exact h2 k (by omega) k2⟩
         simpa using this
      exact k2 _ j rfl hn ⟨hsw,hpa,hai,hij,hjb,h1,h2⟩
     ·try simp -implicitDefEqProofs (disch:=first|exact dsc|fail)[hlt]
      have:=ihm (i+1) (by omega) (by omega) ⟨hsw,hpa,by omega,by omega,hjb,fun k k1 k2=>by
       by_cases e:k=i
       ·subst e;omega
       ·exact h1 k k1 (by omega),h2⟩
      simpa using this
   exact k1 _ i rfl hn ⟨hsw,hpa,hai,hij,hjb,h1,h2⟩
 have:=key b (a+1) (b-1) (by omega) S0 _ g1 g2 ⟨Sw.refl.swap (Nat.le_refl _) (by omega) hap hpb,hpv,by omega,by omega,by omega,fun k k1 k2=>by
  have:k=a:=by omega
  subst this;omega,fun k k1 k2=>by omega⟩
 simpa using this
def C1e(xs ys:List Int)(a b p i j:Nat):Prop:=Sw a b xs ys/\gt ys a=gt xs p/\a<i/\i<=j+1/\j<b/\(∀k,a<k->k<i->gt ys k<gt xs p)/\(∀k,j<k->k<b->gt xs p<=gt ys k)
theorem C1e.swap{xs ys:List Int}{a b p i j:Nat}(h:C1e xs ys a b p i j)(hb:b<=xs.length)(hij:i<j)(h1:¬gt ys i<gt ys a)(h2:gt ys j<gt ys a):C1e xs (swp ys i j) a b p (i+1) (j-1):=by
 obtain⟨hsw,hpa,hai,_,hjb,g1,g2⟩:=h;have hl:=hsw.length;have hg:∀k,gt (swp ys i j) k=if k=j then gt ys i else if k=i then gt ys j else gt ys k:=fun k=>A20 (by omega) (by omega)
 refine⟨hsw.swap (by omega) (by omega) (by omega) hjb,by rw[hg,if_neg (by omega),if_neg (by omega)];exact hpa,by omega,by omega,by omega,fun k k1 k2=>?_,fun k k1 k2=>?_⟩
 ·rw[hg,if_neg (by omega)]
  split
  ·omega
  ·exact g1 k k1 (by omega)
 ·rw[hg];split
  ·omega
  ·rw[if_neg (by omega)];exact g2 k (by omega) k2
theorem G2w{v:Value}{ρ:Option Nat}{xs:List Int}{a b p:Nat}{Q:Post}{s:St}(hv:(intE .u64).Own s v ρ xs)(hlen:xs.length<16000000)(hap:a<=p)(hpb:p<b)(hb:b<=xs.length)
  (hq:∀S ys (m:Nat) (al:Bool),(intE .u64).Own S v ρ ys->Chg s S (Row ρ)->Sw a b xs ys->a<=m->m<b->(∀i,a<=i->i<m->gt ys i<=gt ys m)->(∀i,m<i->i<b->gt ys m<=gt ys i)->Q (.tuple #[.int .i64 m,.bool al]) S):CC X 110 [v,.int .i64 a,.int .i64 b,.int .i64 p] Q s:=by
 refine F1h rfl ?_;have hI0:=hv.in_;have hpx:p<xs.length:=by omega
 have hax:a<xs.length:=by omega
 try simp -implicitDefEqProofs (disch:=first|exact dsc|fail)[hI0.idx,hI0.get]
 refine A0x hv hax hpx rfl rfl A1f (by simp) (by omega) fun S0 g1 g2 g3=>?_
 have hb1:(b:Int)-1=(b-1:Nat):=by omega
 try simp -implicitDefEqProofs (disch:=first|exact dsc|fail)[hb1]
 have hpv:gt (swp xs a p) a=gt xs p:=by
  rw[A20 hax hpx];by_cases e:a=p
  ·subst e;simp
  ·simp[e]
 have fin:∀S ys (i j:Nat),(intE .u64).Own S v ρ ys->Chg s S (Row ρ)->C1e xs ys a b p i j->j<i->∀al:Bool,∀S',(intE .u64).Own S' v ρ (swp ys j a)->Chg S S' (Row ρ)->Q (.tuple #[.int .i64 j,.bool al]) S':=by
  intro S ys i j hS hc ⟨hsw,hpa,hai,hij,hjb,h1,h2⟩ hji al S' q1 q2;have hl:=hsw.length;have hg:∀k,gt (swp ys j a) k=if k=a then gt ys j else if k=j then gt ys a else gt ys k:=fun k=>A20 (by omega) (by omega)
  have hpj:gt (swp ys j a) j=gt xs p:=by
   rw[hg];split
   ·rename_i e;rw[e];exact hpa
   ·simp[hpa]
  refine hq S' _ j al q1 (hc.trans q2 (fun b hb=>.inl hb)) (hsw.swap (by omega) hjb (Nat.le_refl _) (by omega)) (by omega) hjb (fun k k1 k2=>?_) (fun k k1 k2=>?_)
  ·rw[hpj,hg];split
   ·have:=h1 j (by omega) (by omega);omega
   ·rw[if_neg (by omega)];have:=h1 k (by omega) (by omega);omega
  ·rw[hpj,hg,if_neg (by omega),if_neg (by omega)]
   exact h2 k k1 k2
 refine D1j fun I0 hI0=>?_;have key0:∀m i:Nat,b-i=m->∀S ys,(intE .u64).Own S v ρ ys->Chg s S (Row ρ)->C1e xs ys a b p i (b-1)->I0 v (.int .i64 a) (.int .i64 i) (.int .i64 (b-1:Nat)) S:=by
  intro m;induction m with
  | zero=>
   intro i hm S ys hS hc hR;have hR':=hR;obtain⟨hsw,hpa,hai,hij,hjb,h1,h2⟩:=hR;refine hI0 _ _ _ _ _ ?_;have hl:=hsw.length;have hSI:=hS.in_;have hn1:¬(i:Int)<=(b-1:Nat):=by omega
   try simp -implicitDefEqProofs (disch:=first|exact dsc|fail)[hn1]
   refine B7f fun I1 hI1=>hI1 _ _ _ _ _ ?_;have hgt:((b-1:Nat):Int)<i:=by omega
   have hjl:b-1<ys.length:=by omega
   have hal:a<ys.length:=by omega
   try simp -implicitDefEqProofs (disch:=first|exact dsc|fail)[hn1,hgt,hSI.idx,hSI.get]
   refine A0x hS hjl hal rfl rfl A1f (by simp) (by omega) fun S' q1 q2 q3=>?_
   try simp -implicitDefEqProofs (disch:=first|exact dsc|fail)[]
   exact A0a (fin S ys i (b-1) hS hc hR' (by omega) _ S' q1 q2)
  | succ m ih=>
   intro i hm S ys hS hc hR;have hR':=hR;obtain⟨hsw,hpa,hai,hij,hjb,h1,h2⟩:=hR;refine hI0 _ _ _ _ _ ?_;have hl:=hsw.length;have hSI:=hS.in_;have hle:(i:Int)<=(b-1:Nat):=by omega
   have hil:i<ys.length:=by omega
   have hal:a<ys.length:=by omega
   try simp -implicitDefEqProofs (disch:=first|exact dsc|fail)[hle,hSI.idx,hSI.get]
   refine A6w ?_;by_cases hlt:gt ys i<gt ys a
   ·try simp -implicitDefEqProofs (disch:=first|exact dsc|fail)[hlt]
    have:=ih (i+1) (by omega) S ys hS hc ⟨hsw,hpa,by omega,by omega,hjb,fun k k1 k2=>by
     by_cases e:k=i
     ·subst e;omega
     ·exact h1 k k1 (by omega),h2⟩
    simpa using this
   ·try simp -implicitDefEqProofs (disch:=first|exact dsc|fail)[hlt]
    refine B7f fun I1 hI1=>?_;have key1:∀m j:Nat,j+1-i=m->C1e xs ys a b p i j->I1 v (.int .i64 a) (.int .i64 i) (.int .i64 j) S:=by
     intro m;induction m with
     | zero=>
      intro j hm hR;have hR':=hR;obtain⟨hsw,hpa,hai,hij,hjb,h1,h2⟩:=hR;refine hI1 _ _ _ _ _ ?_;have hn1:¬(i:Int)<=j:=by omega
      have hgt:(j:Int)<i:=by omega
      have hjl:j<ys.length:=by omega
      try simp -implicitDefEqProofs (disch:=first|exact dsc|fail)[hn1,hgt,hSI.idx,hSI.get]
      refine A0x hS hjl hal rfl rfl A1f (by simp) (by omega) fun S' q1 q2 q3=>?_
      try simp -implicitDefEqProofs (disch:=first|exact dsc|fail)[]
      exact A0a (fin S ys i j hS hc hR' (by omega) _ S' q1 q2)
     | succ m ihm=>
      intro j hm hR;have hR':=hR;obtain⟨hsw,hpa,hai,hij,hjb,h1,h2⟩:=hR;refine hI1 _ _ _ _ _ ?_;have hle:(i:Int)<=j:=by omega
      have hngt:¬(j:Int)<i:=by omega
      have hjl:j<ys.length:=by omega
      have hj1:(j:Int)-1=(j-1:Nat):=by omega
      try simp -implicitDefEqProofs (disch:=first|exact dsc|fail)[hle,hSI.idx,hSI.get]
      refine A6w ?_;by_cases hlt2:gt ys j<gt ys a
      ·try simp -implicitDefEqProofs (disch:=first|exact dsc|fail)[-C4t,-C5o,-C46,-C47,-C5k,-C4f,-B9g,-C1l,-B9e,-B9c,-B9p,hlt2]
       simp -implicitDefEqProofs (disch:=first|exact dsc|fail)[-C4t,-C5o,-C46,-C47,-C5k,-C4f,-B9g,-C1l,-B9p,wrap_i64,B0l,B9c,B9e,hngt,hSI.idx,hSI.get,hj1];have hne:i≠j:=fun e=>by subst e;exact hlt hlt2
       refine A0x hS hil hjl rfl rfl A1f (by simp) (by omega) fun S1 q1 q2 q3=>?_
       try simp -implicitDefEqProofs (disch:=first|exact dsc|fail)[hj1]
       refine D1c fun I2 hI2=>?_;have key2:∀n i j:Nat,j+1-i<=n->∀S ys,(intE .u64).Own S v ρ ys->Chg s S (Row ρ)->C1e xs ys a b p i j->I2 v (.int .i64 a) (.int .i64 i) (.int .i64 j) S:=by
        intro n;induction n using Nat.strongRecOn with
        | _ n ihn=>
         intro i j hn S ys hS hc hR;refine hI2 _ _ _ _ _ ?_;have hl:=hR.1.length;have hSI:=hS.in_;have hjb0:=hR.2.2.2.2.1;have hai0:=hR.2.2.1
         try simp -implicitDefEqProofs (disch:=first|exact dsc|fail)[]
         refine C9r fun I3 hI3=>?_;have key3:∀m i:Nat,j+1-i=m->j+1-i<=n->C1e xs ys a b p i j->I3 v (.int .i64 a) (.int .i64 i) (.int .i64 j) S:=by
          intro m;induction m with
          | zero=>
           intro i hm hn hR;have hR':=hR;obtain⟨hsw,hpa,hai,hij,hjb,h1,h2⟩:=hR;refine hI3 _ _ _ _ _ ?_;have hn1:¬(i:Int)<=j:=by omega
           have hgt:(j:Int)<i:=by omega
           have hjl:j<ys.length:=by omega
           have hal:a<ys.length:=by omega
           try simp -implicitDefEqProofs (disch:=first|exact dsc|fail)[hn1]
           refine B61 fun I4 hI4=>hI4 _ _ _ _ _ ?_
           try simp -implicitDefEqProofs (disch:=first|exact dsc|fail)[hn1,hgt,hSI.idx,hSI.get]
           refine A0x hS hjl hal rfl rfl A1f (by simp) (by omega) fun S' q1 q2 q3=>?_
           try simp -implicitDefEqProofs (disch:=first|exact dsc|fail)[]
           exact A0a (fin S ys i j hS hc hR' (by omega) _ S' q1 q2)
          | succ m ihm3=>
           intro i hm hn hR;have hR':=hR;obtain⟨hsw,hpa,hai,hij,hjb,h1,h2⟩:=hR;refine hI3 _ _ _ _ _ ?_;have hle:(i:Int)<=j:=by omega
           have hil:i<ys.length:=by omega
           have hal:a<ys.length:=by omega
           try simp -implicitDefEqProofs (disch:=first|exact dsc|fail)[hle,hSI.idx,hSI.get]
           refine A6w ?_;by_cases hlt:gt ys i<gt ys a
           ·try simp -implicitDefEqProofs (disch:=first|exact dsc|fail)[hlt]
            have:=ihm3 (i+1) (by omega) (by omega) ⟨hsw,hpa,by omega,by omega,hjb,fun k k1 k2=>by
             by_cases e:k=i
             ·subst e;omega
             ·exact h1 k k1 (by omega),h2⟩
            simpa using this
           ·try simp -implicitDefEqProofs (disch:=first|exact dsc|fail)[hlt]
            refine B61 fun I4 hI4=>?_;have key4:∀m j:Nat,j+1-i=m->j+1-i<=n->C1e xs ys a b p i j->I4 v (.int .i64 a) (.int .i64 i) (.int .i64 j) S:=by
             intro m;induction m with
             | zero=>
              intro j hm hn hR;have hR':=hR;obtain⟨hsw,hpa,hai,hij,hjb,h1,h2⟩:=hR;refine hI4 _ _ _ _ _ ?_;have hn1:¬(i:Int)<=j:=by omega
              have hgt:(j:Int)<i:=by omega
              have hjl:j<ys.length:=by omega
              try simp -implicitDefEqProofs (disch:=first|exact dsc|fail)[hn1,hgt,hSI.idx,hSI.get]
              refine A0x hS hjl hal rfl rfl A1f (by simp) (by omega) fun S' q1 q2 q3=>?_
              try simp -implicitDefEqProofs (disch:=first|exact dsc|fail)[]
              exact A0a (fin S ys i j hS hc hR' (by omega) _ S' q1 q2)
             | succ m ihm4=>
              intro j hm hn hR;have hR':=hR;obtain⟨hsw,hpa,hai,hij,hjb,h1,h2⟩:=hR;refine hI4 _ _ _ _ _ ?_;have hle:(i:Int)<=j:=by omega
              have hngt:¬(j:Int)<i:=by omega
              have hjl:j<ys.length:=by omega
              have hj1:(j:Int)-1=(j-1:Nat):=by omega
              try simp -implicitDefEqProofs (disch:=first|exact dsc|fail)[hle,hSI.idx,hSI.get]
              refine A6w ?_;by_cases hlt2:gt ys j<gt ys a
              ·have hne:i≠j:=fun e=>by subst e;exact hlt hlt2
               try simp -implicitDefEqProofs (disch:=first|exact dsc|fail)[hlt2,hngt,hSI.idx,hSI.get]
               refine A0x hS hil hjl rfl rfl A1f (by simp) (by omega) fun S1 q1 q2 q3=>?_
               try simp -implicitDefEqProofs (disch:=first|exact dsc|fail)[hj1]
               have:=ihn (n-1) (by omega) (i+1) (j-1) (by omega) S1 _ q1 (hc.trans q2 (fun b hb=>.inl hb)) (hR'.swap hb (by omega) hlt hlt2)
               simpa using this
              ·try simp -implicitDefEqProofs (disch:=first|exact dsc|fail)[hlt2,hj1]
               exact ihm4 (j-1) (by omega) (by omega) ⟨hsw,hpa,hai,by omega,by omega,h1,fun k k1 k2=>by
                by_cases e:k=j
                ·subst e;omega
                ·exact h2 k (by omega) k2⟩
            exact key4 _ j rfl hn hR'
         exact key3 _ i rfl hn hR
       have:=key2 b (i+1) (j-1) (by omega) S1 _ q1 (hc.trans q2 (fun b hb=>.inl hb)) (hR'.swap hb (by omega) hlt hlt2)
       simpa using this
      ·try simp -implicitDefEqProofs (disch:=first|exact dsc|fail)[hlt2,hj1]
       exact ihm (j-1) (by omega) ⟨hsw,hpa,hai,by omega,by omega,h1,fun k k1 k2=>by
        by_cases e:k=j
        ·subst e;omega
        ·exact h2 k (by omega) k2⟩
    exact key1 _ (b-1) rfl hR'
 have:=key0 _ (a+1) rfl S0 _ g1 g2 ⟨Sw.refl.swap (Nat.le_refl _) (by omega) hap hpb,hpv,by omega,by omega,by omega,fun k k1 k2=>by omega,fun k k1 k2=>by omega⟩
 simpa using this
theorem D3a{v:Value}{ρ:Option Nat}{xs:List Int}{a b:Nat}{Q:Post}{s:St}(hv:(intE .u64).Own s v ρ xs)(hlen:xs.length<16000000)(hab:a<b)(hb:b<=xs.length)(hpre:Pre xs a b)
  (hq:∀S ys (r:Bool),(intE .u64).Own S v ρ ys->Chg s S (Row ρ)->Sw a b xs ys->(r=true->Srt ys a b)->Q (.bool r) S):CC X 107 [v,.int .i64 a,.int .i64 b] Q s:=by
 refine F7h rfl ?_
 try simp -implicitDefEqProofs (disch:=first|exact dsc|fail)[]
 refine D1y fun I hI=>?_;have key:∀t n:Nat,n+t=5->∀(i:Nat) S ys u,(intE .u64).Own S v ρ ys->Chg s S (Row ρ)->Sw a b xs ys->a<i->i<=b->Srt ys a i->I v (.int .i64 a) (.int .i64 b) u (.int .i64 i) (.int .i64 n) S:=by
  intro t;induction t with
  | zero=>
   intro n hn i S ys u hS hc hsw hai hib hsr;refine hI _ _ _ _ _ _ _ ?_;have h5:¬(n:Int)<5:=by omega
   try simp -implicitDefEqProofs (disch:=first|exact dsc|fail)[h5]
   exact A0a (hq S ys false hS hc hsw (by simp))
  | succ t iht=>
   intro n hn i S ys u hS hc hsw hai hib hsr;refine hI _ _ _ _ _ _ _ ?_;have h5:(n:Int)<5:=by omega
   try simp -implicitDefEqProofs (disch:=first|exact dsc|fail)[h5]
   refine C9p fun I1 hI1=>?_;have hl:=hsw.length;have hSI:=hS.in_;have k1:∀m i:Nat,i+m=b->a<i->Srt ys a i->I1 v (.int .i64 a) (.int .i64 b) (.int .i64 i) (.int .i64 n) S:=by
    intro m;induction m with
    | zero=>
     intro i hm hai hsr;refine hI1 _ _ _ _ _ _ ?_;have hib:i=b:=by omega
     subst hib
     try simp -implicitDefEqProofs (disch:=first|exact dsc|fail)[]
     exact A0a (hq S ys true hS hc hsw (fun _=>hsr))
    | succ m ihm=>
     intro i hm hai hsr;refine hI1 _ _ _ _ _ _ ?_;have hib:i<b:=by omega
     have hil:i<ys.length:=by omega
     have hi1l:i-1<ys.length:=by omega
     have hi1:(i:Int)-1=(i-1:Nat):=by omega
     try simp -implicitDefEqProofs (disch:=first|exact dsc|fail)[hib,hi1,hSI.idx,hSI.get]
     refine A6w ?_;by_cases hlt:gt ys i<gt ys (i-1)
     ·have hne:¬(i:Int)=b:=by omega
      by_cases h50:(b:Int)-a<50
      ·try simp -implicitDefEqProofs (disch:=first|exact dsc|fail)[hlt,hne,h50]
       exact A0a (hq S ys false hS hc hsw (by simp))
      ·try simp -implicitDefEqProofs (disch:=first|exact dsc|fail)[-A4l,-A3u,-A4c,-A4e,-A3t,-A4i,-A39,-A28,-A11,-A2c,-A2b,-A2e,-A2k,-A2j,hlt]
       simp -implicitDefEqProofs (disch:=first|exact dsc|fail)[-A4l,-A3u,-A4c,-A4e,-A3t,-A4i,-A39,-A28,-A11,-A2k,-A2j,wrap_i64,A2e,A2b,A2c,hne,h50,hi1,hSI.idx,hSI.get];refine A0x hS hil hi1l rfl rfl A1f (by simp) (by omega) fun S1 q1 q2 q3=>?_
       have hg:∀k,gt (swp ys i (i-1)) k=if k=i-1 then gt ys i else if k=i then gt ys (i-1)else gt ys k:=fun k=>A20 hil hi1l
       have hsw1:=hsw.swap (i:=i) (j:=i-1) (by omega) (by omega) (by omega) (by omega)
       have hc1:=hc.trans q2 (fun b hb=>Or.inl hb);have tail:∀S2 zs u,(intE .u64).Own S2 v ρ zs->Chg s S2 (Row ρ)->Sw a b xs zs->Srt zs a i->A11 (CC X) (B1d (CC X) Q s) I v (.int .i64 a) (.int .i64 b) u (.int .i64 i) (.int .i64 n) S2:=by
        intro S2 zs u hS2 hc2 hsw2 hsr2;have fin:∀S3 ws u,(intE .u64).Own S3 v ρ ws->Chg s S3 (Row ρ)->Sw a b xs ws->Srt ws a i->A28 (CC X) (B1d (CC X) Q s) I v (.int .i64 a) (.int .i64 b) u (.int .i64 i) (.int .i64 n) S3:=by
         intro S3 ws u hS3 hc3 hsw3 hsr3
         try simp -implicitDefEqProofs (disch:=first|exact dsc|fail)[]
         have:=iht (n+1) (by omega) i S3 ws u hS3 hc3 hsw3 hai (by omega) hsr3
         simpa using this
        by_cases h2:(2:Int)<=(b:Int)-i
        ·simp -implicitDefEqProofs (disch:=first|exact dsc|fail)[-A4l,-A3u,-A4c,-A4e,-A3t,-A4i,-A39,-A28,-A2c,-A2b,-A2e,-A2k,-A2j,wrap_i64,A11,h2];refine D1u fun I3 hI3=>?_;have k3:∀m j:Nat,j+m=b->i<j->∀S3 ws,(intE .u64).Own S3 v ρ ws->Chg s S3 (Row ρ)->Sw a b xs ws->Srt ws a i->I3 v (.int .i64 a) (.int .i64 b) (.int .i64 i) (.int .i64 n) (.int .i64 j) S3:=by
          intro m;induction m with
          | zero=>
           intro j hm hij S3 ws hS3 hc3 hsw3 hsr3;refine hI3 _ _ _ _ _ _ _ ?_;have hjb:¬(j:Int)<b:=by omega
           have hjb':¬j<b:=by omega
           try simp -implicitDefEqProofs (disch:=first|exact dsc|fail)[-A4l,-A3u,-A4c,-A4e,-A3t,-A4i,-A39,-A28,-A11,-A2c,-A2b,-A2e,-A2k,-A2j,hjb,hjb']
           exact fin S3 ws _ hS3 hc3 hsw3 hsr3
          | succ m ihm3=>
           intro j hm hij S3 ws hS3 hc3 hsw3 hsr3;refine hI3 _ _ _ _ _ _ _ ?_;have hjb:j<b:=by omega
           have hl3:=hsw3.length;have hjl:j<ws.length:=by omega
           have hj1l:j-1<ws.length:=by omega
           have hj1:(j:Int)-1=(j-1:Nat):=by omega
           simp -implicitDefEqProofs (disch:=first|exact dsc|fail)[-A4l,-A3u,-A4c,-A4e,-A3t,-A4i,-A28,-A11,-A2c,-A2b,-A2e,-A2k,-A2j,wrap_i64,A0n,A39,hjb,hj1,hS3.in_.idx,hS3.in_.get];refine A6w ?_;by_cases hlt:gt ws j<gt ws (j-1)
           ·simp -implicitDefEqProofs (disch:=first|exact dsc|fail)[-A4l,-A3u,-A4c,-A4e,-A3t,-A39,-A28,-A11,-A2c,-A2b,-A2e,-A2k,-A2j,wrap_i64,A4i,hlt,hj1,hS3.in_.idx,hS3.in_.get];refine A0x hS3 hjl hj1l rfl rfl A1f (by simp) (by omega) fun S4 w1 w2 w3=>?_
            simp -implicitDefEqProofs (disch:=omega) [wrap_i64,A3t];have:=ihm3 (j+1) (by omega) (by omega) S4 _ w1 (hc3.trans w2 (fun b hb=>.inl hb)) (hsw3.swap (by omega) (by omega) (by omega) (by omega)) (fun p q p1 p2 p3=>by
             rw[A20 hjl hj1l,A20 hjl hj1l,if_neg (by omega),if_neg (by omega),if_neg (by omega),if_neg (by omega)]
             exact hsr3 p q p1 p2 p3)
            simpa using this
           ·simp -implicitDefEqProofs (disch:=first|exact dsc|fail)[-A4l,-A3u,-A4c,-A4e,-A3t,-A4i,-A39,-A28,-A11,-A2c,-A2b,-A2e,-A2k,-A2j,hlt];exact fin S3 ws _ hS3 hc3 hsw3 hsr3
         have:=k3 (b-(i+1)) (i+1) (by omega) (by omega) S2 zs hS2 hc2 hsw2 hsr2
         simpa using this
        ·simp -implicitDefEqProofs (disch:=first|exact dsc|fail)[-A4l,-A3u,-A4c,-A4e,-A3t,-A4i,-A39,-A28,-A2c,-A2b,-A2e,-A2k,-A2j,wrap_i64,A11,h2];exact fin S2 zs u hS2 hc2 hsw2 hsr2
       by_cases h2i:(2:Int)<=(i:Int)-a
       ·simp -implicitDefEqProofs (disch:=first|exact dsc|fail)[-A4l,-A3u,-A4c,-A4e,-A3t,-A4i,-A39,-A28,-A11,-A2c,-A2b,-A2e,-A2k,-A2j,wrap_i64,h2i,hi1];refine D1t fun I2 hI2=>?_;have k2:∀m j:Nat,j=a+m->j<i->∀S2 zs,(intE .u64).Own S2 v ρ zs->Chg s S2 (Row ρ)->Sw a b xs zs->(∀p q,a<=p->p<q->q<i->p≠j->q≠j->gt zs p<=gt zs q)->(∀q,j<q->q<i->gt zs j<=gt zs q)->
          I2 v (.int .i64 a) (.int .i64 b) (.int .i64 i) (.int .i64 n) (.int .i64 j) S2:=by
         intro m;induction m with
         | zero=>
          intro j hj hji S2 zs hS2 hc2 hsw2 h1 h2;have hja:j=a:=by omega
          subst hja;have hsr2:Srt zs j i:=fun p q p1 p2 p3=>by
           by_cases e:p=j
           ·subst e;exact h2 q p2 p3
           ·exact h1 p q p1 p2 p3 e (by omega)
          refine hI2 _ _ _ _ _ _ _ ?_;have hl2:=hsw2.length;by_cases h0:j=0
          ·subst h0
           try simp -implicitDefEqProofs (disch:=first|exact dsc|fail)[-A4l,-A3u,-A4c,-A4e,-A3t,-A4i,-A39,-A28,-A11,-A2c,-A2b,-A2e,-A2k,-A2j]
           exact tail S2 zs _ hS2 hc2 hsw2 hsr2
          ·have h1j:(1:Int)<=j:=by omega
           have hjl:j<zs.length:=by omega
           have hj1l:j-1<zs.length:=by omega
           have hj1:(j:Int)-1=(j-1:Nat):=by omega
           simp -implicitDefEqProofs (disch:=first|exact dsc|fail)[-A4l,-A3u,-A4c,-A3t,-A4i,-A39,-A28,-A11,-A2c,-A2b,-A2e,-A2k,-A2j,wrap_i64,A0n,A4e,h1j,hj1,hS2.in_.idx,hS2.in_.get];refine A6w ?_;have hnl:¬gt zs j<gt zs (j-1):=by
            have:=((hpre.sw hsw2 hb).resolve_left h0) j (Nat.le_refl _) hab;omega
           simp -implicitDefEqProofs (disch:=first|exact dsc|fail)[-A4l,-A3u,-A4c,-A4e,-A3t,-A4i,-A39,-A28,-A11,-A2c,-A2b,-A2e,-A2k,-A2j,hnl];exact tail S2 zs _ hS2 hc2 hsw2 hsr2
         | succ m ihm2=>
          intro j hj hji S2 zs hS2 hc2 hsw2 h1 h2;refine hI2 _ _ _ _ _ _ _ ?_;have hl2:=hsw2.length;have h1j:(1:Int)<=j:=by omega
          have hjl:j<zs.length:=by omega
          have hj1l:j-1<zs.length:=by omega
          have hj1:(j:Int)-1=(j-1:Nat):=by omega
          simp -implicitDefEqProofs (disch:=first|exact dsc|fail)[-A4l,-A3u,-A4c,-A3t,-A4i,-A39,-A28,-A11,-A2c,-A2b,-A2e,-A2k,-A2j,wrap_i64,A0n,A4e,h1j,hj1,hS2.in_.idx,hS2.in_.get];refine A6w ?_;by_cases hlt:gt zs j<gt zs (j-1)
          ·simp -implicitDefEqProofs (disch:=first|exact dsc|fail)[-A4l,-A3u,-A4e,-A3t,-A4i,-A39,-A28,-A11,-A2c,-A2b,-A2e,-A2k,-A2j,wrap_i64,A4c,hlt,hj1,hS2.in_.idx,hS2.in_.get];refine A0x hS2 hjl hj1l rfl rfl A1f (by simp) (by omega) fun S4 w1 w2 w3=>?_
           simp -implicitDefEqProofs (disch:=omega) [wrap_i64,A3u,hj1];have hg2:∀k,gt (swp zs j (j-1)) k=if k=j-1 then gt zs j else if k=j then gt zs (j-1)else gt zs k:=fun k=>A20 hjl hj1l
           refine ihm2 (j-1) (by omega) (by omega) S4 _ w1 (hc2.trans w2 (fun b hb=>.inl hb)) (hsw2.swap (by omega) (by omega) (by omega) (by omega)) (fun p q p1 p2 p3 p4 p5=>?_) (fun q q1 q2=>?_)
           ·rw[hg2 p,hg2 q,if_neg p4,if_neg p5];by_cases hpj:p=j
            ·rw[if_pos hpj,if_neg (by omega)];exact h1 (j-1) q (by omega) (by omega) p3 (by omega) (by omega)
            ·rw[if_neg hpj];by_cases hqj:q=j
             ·rw[if_pos hqj];exact h1 p (j-1) p1 (by omega) (by omega) (by omega) (by omega)
             ·rw[if_neg hqj];exact h1 p q p1 p2 p3 hpj hqj
           ·rw[hg2 (j-1),if_pos rfl,hg2 q,if_neg (by omega)]
            by_cases hqj:q=j
            ·rw[if_pos hqj];omega
            ·rw[if_neg hqj];exact h2 q (by omega) q2
          ·simp -implicitDefEqProofs (disch:=first|exact dsc|fail)[-A4l,-A3u,-A4c,-A4e,-A3t,-A4i,-A39,-A28,-A11,-A2c,-A2b,-A2e,-A2k,-A2j,hlt];refine tail S2 zs _ hS2 hc2 hsw2 (fun p q g1 g2 g3=>?_);by_cases hp:p=j
           ·subst hp;exact h2 q g2 g3
           ·by_cases hq:q=j
            ·subst hq;by_cases hp1:p=q-1
             ·subst hp1;omega
             ·have:=h1 p (q-1) g1 (by omega) (by omega) (by omega) (by omega);omega
            ·exact h1 p q g1 g2 g3 hp hq
        exact k2 (i-1-a) (i-1) (by omega) (by omega) S1 _ q1 hc1 hsw1 (fun p q p1 p2 p3 p4 p5=>by
         rw[hg,hg,if_neg p4,if_neg p5,if_neg (by omega),if_neg (by omega)];exact hsr p q p1 p2 p3) (fun q q1 q2=>by omega)
       ·simp -implicitDefEqProofs (disch:=first|exact dsc|fail)[-A4l,-A3u,-A4c,-A4e,-A3t,-A4i,-A39,-A28,-A11,-A2c,-A2b,-A2e,-A2k,-A2j,wrap_i64,h2i];exact tail S1 _ _ q1 hc1 hsw1 (fun p q p1 p2 p3=>by omega)
     ·try simp -implicitDefEqProofs (disch:=first|exact dsc|fail)[hlt]
      have:=ihm (i+1) (by omega) (by omega) (fun p q p1 p2 p3=>by
       by_cases hq:q=i
       ·subst hq;by_cases hp:p=q-1
        ·subst hp;omega
        ·have:=hsr p (q-1) p1 (by omega) (by omega);omega
       ·exact hsr p q p1 p2 (by omega))
      simpa using this
   exact k1 (b-i) i (by omega) hai hsr
 have:=key 5 0 rfl (a+1) s xs (.bool false) hv ⟨Nat.le_refl _,fun _ _=>rfl⟩ .refl (by omega) (by omega) (fun p q p1 p2 p3=>by omega)
 simpa using this
theorem pdq_u{v:Value}{ρ:Option Nat}:∀(N:Nat) {xs:List Int} {a b:Nat} {lim:Int} {Q:Post} {s:St},b-a<=N->(intE .u64).Own s v ρ xs->xs.length<16000000->a<=b->b<=xs.length->Pre xs a b->-1000000000+b-a<=lim->lim<=1000->
  (∀S ys,(intE .u64).Own S v ρ ys->Chg s S (Row ρ)->Sw a b xs ys->Srt ys a b->Q (.tuple #[]) S)->CC X 66 [v,.int .i64 a,.int .i64 b,.int .i64 lim] Q s:=by
 intro N;induction N using Nat.strongRecOn with
 | _ N IH=>
  intro xs a0 b0 lim0 Q s hN hv hlen hab hb hpre hlim0 hlim1 hq;refine G6b rfl ?_
  try simp -implicitDefEqProofs (disch:=first|exact dsc|fail)[]
  refine D65 fun I hI=>?_;have key:∀n a b:Nat,b-a<=n->b-a<=N->a0<=a->a<=b->b<=b0->∀S ys (lim:Int) (wb wp:Bool),(intE .u64).Own S v ρ ys->Chg s S (Row ρ)->Sw a0 b0 xs ys->Out ys a0 b0 a b->Pre ys a b->-1000000000+b-a<=lim->lim<=1000->
    I v (.int .i64 a) (.int .i64 b) (.int .i64 lim) (.bool wb) (.bool wp) S:=by
   intro n;induction n using Nat.strongRecOn with
   | _ n ih=>
    intro a b hn hN' ha0 hab hbb S ys lim wb wp hS hc hsw hout hpr hl0 hl1;refine hI _ _ _ _ _ _ _ ?_;have hl:=hsw.length;have hby:b<=ys.length:=by omega
    have done:∀S2 zs,(intE .u64).Own S2 v ρ zs->Chg S S2 (Row ρ)->Sw a b ys zs->Srt zs a b->kEnd Q s (some (.tuple #[])) S2:=fun S2 zs h1 h2 h3 h4=>
     A0a (hq S2 zs h1 (hc.trans h2 (fun b hb=>.inl hb)) (hsw.trans (h3.mono ha0 hbb)) ((hout.sw h3 ha0 hbb hby).srt h4))
    by_cases h12:(b:Int)-a<=12
    ·try simp -implicitDefEqProofs (disch:=first|exact dsc|fail)[h12]
     refine D7e hS (by omega) hab hby fun S2 zs h1 h2 h3 h4=>?_
     try simp -implicitDefEqProofs (disch:=first|exact dsc|fail)[]
     exact done S2 zs h1 h2 h3 h4
    by_cases hlz:lim=0
    ·try simp -implicitDefEqProofs (disch:=first|exact dsc|fail)[-A3l,-A24,-A25,-A23,-A30,-A32,h12,hlz]
     simp -implicitDefEqProofs (disch:=first|exact dsc|fail)[-A3l,-A24,-A25,-A23,-A30,A0n,A32];refine C87 hS (by omega) (by omega) hby fun S2 zs h1 h2 h3 h4=>?_
     try simp -implicitDefEqProofs (disch:=first|exact dsc|fail)[]
     exact done S2 zs h1 h2 h3 h4
    have parted:∀S2 zs (lim2:Int) (p:Nat) (wb wp:Bool),(intE .u64).Own S2 v ρ zs->Chg S S2 (Row ρ)->Sw a b ys zs->a<=p->p<b->-1000000000+b-a-1<=lim2->lim2<=1000->
      A24 (CC X) (B8c (CC X) Q s) I v (.int .i64 a) (.int .i64 b) (.int .i64 lim2) (.bool wb) (.bool wp) (.int .i64 ((b:Int)-a)) (.int .i64 p) S2:=by
     intro S2 zs lim2 p wb wp hS2 hc2 hsw2 hp1 hp2 hq1 hq2;have hlz:=hsw2.length;have hpr2:=hpr.sw hsw2 hby;have hout2:=hout.sw hsw2 ha0 hbb hby;have hbz:b<=zs.length:=by omega
     have hc':=hc.trans hc2 (fun b hb=>Or.inl hb);have hsw':=hsw.trans (hsw2.mono ha0 hbb);have two:A3l (CC X) (B8c (CC X) Q s) I v (.int .i64 a) (.int .i64 b) (.int .i64 lim2) (.int .i64 ((b:Int)-a)) (.int .i64 p) S2:=by
      simp -implicitDefEqProofs (disch:=first|exact dsc|fail)[-A24,-A25,-A23,-A30,-A32,A0n,A3l];refine G2w hS2 (by omega) hp1 hp2 hbz fun S3 ws m al w1 w2 w3 w4 w5 w6 w7=>?_
      have hlw:=w3.length;have hpr3:=hpr2.sw w3 hbz;have hout3:=hout2.sw w3 ha0 hbb hbz;have hc3:=hc'.trans w2 (fun b hb=>Or.inl hb);have hsw3:=hsw'.trans (w3.mono ha0 hbb);by_cases hlr:(m:Int)-a<(b:Int)-m
      ·simp -implicitDefEqProofs (disch:=first|exact dsc|fail)[-A3l,-A24,-A25,-A23,-A30,-A32,A0n,wrap_i64,B35,Int.tdiv_eq_ediv_of_nonneg,hlr];refine IH (m-a) (by omega) (Nat.le_refl _) w1 (by omega) w4 (by omega) ?_ (by omega) (by omega) fun S4 us z1 z2 z3 z4=>?_
       ·rcases hpr3 with h|h
        ·exact .inl h
        ·exact .inr (fun k k1 k2=>h k k1 (by omega))
       try simp -implicitDefEqProofs (disch:=first|exact dsc|fail)[-A3l,-A24,-A25,-A23,-A30,-A32,wrap_i64]
       have hlu:=z3.length;have:=ih (n-1) (by omega) (m+1) b (by omega) (by omega) (by omega) (by omega) hbb S4 us lim2 (decide (((b:Int)-a)/8<=(m:Int)-a)) al z1 (hc3.trans z2 (fun b hb=>.inl hb)) (hsw3.trans (z3.mono ha0 (by omega))) (hout3.left ha0 hbb (by omega) w4 w5 w6 w7 z3 z4)
        (.inr (fun k k1 k2=>by rw[z3.out (by omega) (k:=m+1-1) (by omega),z3.out (by omega) (k:=k) (by omega)];exact w7 k (by omega) k2)) (by omega) hq2
       simpa using this
      ·simp -implicitDefEqProofs (disch:=first|exact dsc|fail)[-A3l,-A24,-A25,-A23,-A30,-A32,A0n,wrap_i64,B35,Int.tdiv_eq_ediv_of_nonneg,hlr];have hrec:=IH (b-(m+1)) (by omega) (a:=m+1) (b:=b) (lim:=lim2) (Q:=fun _ S4=>I v (.int .i64 a) (.int .i64 m) (.int .i64 lim2) (.bool (decide (((b:Int)-a)/8<=(b:Int)-m))) (.bool al) S4) (Nat.le_refl _) w1 (by omega) (by omega) (by omega)
        (.inr (fun k k1 k2=>w7 k (by omega) k2)) (by omega) hq2 (fun S4 us z1 z2 z3 z4=>by
         have hlu:=z3.length;have hpr4:Pre us a m:=by
          rcases hpr3 with h|h
          ·exact .inl h
          ·by_cases h0:a=0
           ·exact .inl h0
           ·exact .inr (fun k k1 k2=>by rw[z3.out (by omega) (k:=a-1) (by omega),z3.out (by omega) (k:=k) (by omega)];exact h k k1 (by omega))
         exact ih (n-1) (by omega) a m (by omega) (by omega) ha0 w4 (by omega) S4 us lim2 _ al z1 (hc3.trans z2 (fun b hb=>.inl hb)) (hsw3.trans (z3.mono (by omega) hbb)) (hout3.right ha0 hbb (by omega) w4 w5 w6 w7 z3 z4) hpr4 (by omega) hq2)
       have e1:((m+1:Nat):Int)=m+1:=by omega
       rw[e1]at hrec;refine A6p hrec fun _ S4 h4=>?_;exact h4
     have hzI:=hS2.in_;by_cases ha:0<a
     ·have ha':(0:Int)<a:=by omega
      have ha1:(a:Int)-1=(a-1:Nat):=by omega
      have hal:a-1<zs.length:=by omega
      have hpl:p<zs.length:=by omega
      simp -implicitDefEqProofs (disch:=first|exact dsc|fail)[-A3l,-A25,-A23,-A30,-A32,A0n,wrap_i64,A24,ha,ha',ha1,hzI.idx,hzI.get];refine A6w ?_;by_cases hlt:gt zs (a-1)<gt zs p
      ·try simp -implicitDefEqProofs (disch:=first|exact dsc|fail)[-A3l,-A24,-A25,-A23,-A30,-A32,hlt]
       exact two
      ·simp -implicitDefEqProofs (disch:=first|exact dsc|fail)[-A3l,-A24,-A25,-A23,-A30,-A32,A0n,hlt];refine E4h hS2 (by omega) hp1 hp2 hbz fun S3 ws m w1 w2 w3 w4 w5 w6 w7=>?_
       have hlw:=w3.length;have hpr3:=(hpr2.sw w3 hbz).resolve_left (by omega)
       have hout3:=hout2.sw w3 ha0 hbb hbz;have hge:∀k,a<=k->k<b->gt zs p<=gt ws k:=fun k k1 k2=>by
        have:=hpr3 k k1 k2;rw[w3.out hbz (k:=a-1) (by omega)]at this
        omega
       refine ih (n-1) (by omega) m b (by omega) (by omega) (by omega) w5 hbb S3 ws lim2 _ _ w1 (hc'.trans w2 (fun b hb=>.inl hb)) (hsw'.trans (w3.mono ha0 hbb)) (fun i j g1 g2 g3 g4=>?_) (.inr (fun k k1 k2=>?_)) (by omega) hq2
       ·by_cases hij:a<=i/\j<b
        ·have hi:=w6 i hij.1 (by omega)
         have hj:=hge j (by omega) hij.2
         omega
        ·exact hout3 i j g1 g2 g3 hij
       ·have h1:=w6 (m-1) (by omega) (by omega)
        have h2:=w7 k k1 k2;omega
     ·have ha':¬(0:Int)<a:=by omega
      simp -implicitDefEqProofs (disch:=first|exact dsc|fail)[-A3l,-A25,-A23,-A30,-A32,wrap_i64,A24,ha,ha'];exact two
    have chosen:∀S2 zs (lim2:Int) (p:Nat) (h:Int) (wb wp:Bool),(intE .u64).Own S2 v ρ zs->Chg S S2 (Row ρ)->Sw a b ys zs->a<=p->p<b->-1000000000+b-a-1<=lim2->lim2<=1000->
      A25 (CC X) (B8c (CC X) Q s) I v (.int .i64 a) (.int .i64 b) (.int .i64 lim2) (.bool wb) (.bool wp) (.int .i64 ((b:Int)-a)) (.int .i64 p) (.int .i64 h) S2:=by
     intro S2 zs lim2 p h wb wp hS2 hc2 hsw2 hp1 hp2 hq1 hq2;have hlz:=hsw2.length;have hc':=hc.trans hc2 (fun b hb=>Or.inl hb);by_cases hall:(wb&&wp&&decide (h=1))=true
     ·simp only[Bool.and_eq_true,decide_eq_true_eq]at hall;obtain⟨⟨rfl,rfl⟩,rfl⟩:=hall;simp -implicitDefEqProofs (disch:=first|exact dsc|fail)[-A3l,-A24,-A23,-A30,-A32,A0n,A25];refine D3a hS2 (by omega) (by omega) (by omega) (hpr.sw hsw2 hby) fun S3 ws r w1 w2 w3 w4=>?_
      cases r with
      | true=>
       simp -implicitDefEqProofs (disch:=first|exact dsc|fail)[-A3l,-A24,-A25,-A23,-A30,-A32];exact done S3 ws w1 (hc2.trans w2 (fun b hb=>.inl hb)) (hsw2.trans w3) (w4 rfl)
      | false=>
       try simp -implicitDefEqProofs (disch:=first|exact dsc|fail)[-A3l,-A24,-A25,-A23,-A30,-A32]
       exact parted S3 ws lim2 p true true w1 (hc2.trans w2 (fun b hb=>.inl hb)) (hsw2.trans w3) hp1 hp2 hq1 hq2
     ·have:=parted S2 zs lim2 p wb wp hS2 hc2 hsw2 hp1 hp2 hq1 hq2;cases wb<;>cases wp<;>simp at hall<;>simp -implicitDefEqProofs (disch:=first|exact dsc|fail)[-A3l,-A24,-A23,-A30,-A32,A25,hall]<;>exact this
    have pick:∀S2 zs (lim2:Int) (wb wp:Bool),(intE .u64).Own S2 v ρ zs->Chg S S2 (Row ρ)->Sw a b ys zs->-1000000000+b-a-1<=lim2->lim2<=1000->
      A23 (CC X) (B8c (CC X) Q s) I v (.int .i64 a) (.int .i64 b) (.int .i64 lim2) (.bool wb) (.bool wp) (.int .i64 ((b:Int)-a)) S2:=by
     intro S2 zs lim2 wb wp hS2 hc2 hsw2 hq1 hq2;have hlz:=hsw2.length;simp -implicitDefEqProofs (disch:=first|exact dsc|fail)[-A3l,-A24,-A25,-A30,-A32,A0n,A23];refine F4g hS2.in_ (by omega) (by omega) (by omega) fun p h p1 p2=>?_
     by_cases h2:h=2
     ·subst h2;simp -implicitDefEqProofs (disch:=first|exact dsc|fail)[-A3l,-A24,-A25,-A23,-A30,-A32,A0n];refine D77 hS2 (by omega) (by omega) (by omega) fun S3 ws w1 w2 w3=>?_
      have e1:(b:Int)-1-((p:Int)-a)=(b-1-(p-a):Nat):=by omega
      try simp -implicitDefEqProofs (disch:=first|exact dsc|fail)[-A3l,-A24,-A25,-A23,-A30,-A32,wrap_i64]
      rw[e1];exact chosen S3 ws lim2 _ 1 wb wp w1 (hc2.trans w2 (fun b hb=>.inl hb)) (hsw2.trans w3) (by omega) (by omega) hq1 hq2
     ·try simp -implicitDefEqProofs (disch:=first|exact dsc|fail)[-A3l,-A24,-A25,-A23,-A30,-A32,h2]
      exact chosen S2 zs lim2 p h wb wp hS2 hc2 hsw2 p1 p2 hq1 hq2
    try simp -implicitDefEqProofs (disch:=first|exact dsc|fail)[-A3l,-A24,-A25,-A23,-A30,-A32,h12]
    simp -implicitDefEqProofs (disch:=first|exact dsc|fail)[-A3l,-A24,-A25,-A23,A32,A30,hlz,A0n];cases wb with
    | true=>
     simp -implicitDefEqProofs (disch:=first|exact dsc|fail)[-A3l,-A24,-A25,-A23,-A30,-A32];exact pick S ys lim true wp hS ⟨Nat.le_refl _,fun _ _=>rfl⟩ .refl (by omega) hl1
    | false=>
     simp -implicitDefEqProofs (disch:=first|exact dsc|fail)[-A3l,-A24,-A25,-A23,-A30,-A32];refine D0a hS (by omega) (by omega) hby fun S2 zs h1 h2 h3=>?_
     simp -implicitDefEqProofs (disch:=first|exact dsc|fail)[-A3l,-A24,-A25,-A23,-A30,-A32,wrap_i64];exact pick S2 zs (lim-1) false wp h1 h2 h3 (by omega) (by omega)
  exact key (b0-a0) a0 b0 (Nat.le_refl _) hN (Nat.le_refl _) hab (Nat.le_refl _) s xs lim0 true true hv ⟨Nat.le_refl _,fun _ _=>rfl⟩ .refl (fun i j h1 h2 h3 h4=>by omega) hpre hlim0 hlim1
theorem C6t{v:Value}{ρ:Option Nat}{xs:List Int}{Q:Post}{s:St}(hv:(intE .u64).Own s v ρ xs)(hlen:xs.length<16000000)
  (hq:∀S ys,(intE .u64).Own S v ρ ys->Chg s S (Row ρ)->ys.Perm xs->ys.Pairwise (·<=·)->Q (.tuple #[]) S):CC X 34 [v] Q s:=by
 refine G2d rfl ?_
 try simp -implicitDefEqProofs (disch:=first|exact dsc|fail)[hv.in_.len A0c]
 refine B97 (by omega) fun k hk _ _=>?_
 try simp -implicitDefEqProofs (disch:=first|exact dsc|fail)[]
 refine pdq_u (a:=0) xs.length (by omega) hv hlen (Nat.zero_le _) (Nat.le_refl _) (.inl rfl) (by omega) (by omega) fun S ys h1 h2 h3 h4=>?_
 try simp -implicitDefEqProofs (disch:=first|exact dsc|fail)[]
 have hl:=h3.length;exact A0a (hq S ys h1 h2 (h3.perm (Nat.le_refl _)) (Srt.list (by rw[hl];exact h4)))
theorem D28{v:Value}{ρ:Option Nat}{xs:List Int}{a b:Nat}{Q:Post}{s:St}(hv:(intE .i64).Own s v ρ xs)(hlen:xs.length<1000000000)(hab:a<=b)(hb:b<=xs.length)
  (hq:∀S ys,(intE .i64).Own S v ρ ys->Chg s S (Row ρ)->Sw a b xs ys->Srt ys a b->Q (.tuple #[]) S):CC X 168 [v,.int .i64 a,.int .i64 b] Q s:=by
 refine F7g rfl ?_
 try simp -implicitDefEqProofs (disch:=first|exact dsc|fail)[]
 refine C9j fun I hI=>?_;have key:∀k i:Nat,i+k=b+1->a+1<=i->∀S ys,(intE .i64).Own S v ρ ys->Chg s S (Row ρ)->Sw a b xs ys->Srt ys a i->I v (.int .i64 a) (.int .i64 b) (.int .i64 i) S:=by
  intro k;induction k with
  | zero=>
   intro i hk hi S ys hS hc hsw hsr;refine hI _ _ _ _ _ ?_;have h1:¬i<b:=by omega
   try simp -implicitDefEqProofs (disch:=first|exact dsc|fail)[h1]
   exact A0a (hq S ys hS hc hsw (fun p q h1 h2 h3=>hsr p q h1 h2 (by omega)))
  | succ k ih=>
   intro i hk hi S ys hS hc hsw hsr;refine hI _ _ _ _ _ ?_;by_cases hib:i<b
   ·try simp -implicitDefEqProofs (disch:=first|exact dsc|fail)[hib]
    refine C9k fun I2 hI2=>?_;have inner:∀m j:Nat,j=a+m->j<=i->∀S ys,(intE .i64).Own S v ρ ys->Chg s S (Row ρ)->Sw a b xs ys->(∀p q,a<=p->p<q->q<=i->p≠j->q≠j->gt ys p<=gt ys q)->(∀q,j<q->q<=i->gt ys j<=gt ys q)->
      I2 v (.int .i64 a) (.int .i64 b) (.int .i64 i) (.int .i64 j) S:=by
     intro m;induction m with
     | zero=>
      intro j hj hji S ys hS hc hsw h1 h2;refine hI2 _ _ _ _ _ _ ?_;have hja:¬a<j:=by omega
      try simp -implicitDefEqProofs (disch:=first|exact dsc|fail)[hja]
      have:=ih (i+1) (by omega) (by omega) S ys hS hc hsw (fun p q g1 g2 g3=>by
       by_cases hp:p=j
       ·subst hp;exact h2 q g2 (by omega)
       ·exact h1 p q g1 g2 (by omega) hp (by omega))
      simpa using this
     | succ m ihm=>
      intro j hj hji S ys hS hc hsw h1 h2;refine hI2 _ _ _ _ _ _ ?_;have hl:=hsw.length;have hja:a<j:=by omega
      have hjl:j<ys.length:=by omega
      have hj1:(j:Int)-1=(j-1:Nat):=by omega
      have hj1l:j-1<ys.length:=by omega
      have hSI:=hS.in_
      try simp -implicitDefEqProofs (disch:=first|exact dsc|fail)[hja,hj1,hSI.idx,hSI.get]
      refine A6z ?_;by_cases hlt:gt ys j<gt ys (j-1)
      ·try simp -implicitDefEqProofs (disch:=first|exact dsc|fail)[hlt,hja,hj1,hSI.idx,hSI.get]
       refine A0x hS hjl hj1l rfl rfl A1e (by simp) (by omega) fun S' g1 g2 g3=>?_
       try simp -implicitDefEqProofs (disch:=first|exact dsc|fail)[hj1]
       have hg:∀k,gt (swp ys j (j-1)) k=if k=j-1 then gt ys j else if k=j then gt ys (j-1)else gt ys k:=fun k=>A20 hjl hj1l
       refine ihm (j-1) (by omega) (by omega) S' _ g1 (hc.trans g2 (fun b hb=>.inl hb)) (hsw.swap (by omega) (by omega) (by omega) (by omega)) (fun p q p1 p2 p3 p4 p5=>?_) (fun q q1 q2=>?_)
       ·rw[hg p,hg q,if_neg p4,if_neg p5];by_cases hpj:p=j
        ·rw[if_pos hpj,if_neg (by omega)];exact h1 (j-1) q (by omega) (by omega) p3 (by omega) (by omega)
        ·rw[if_neg hpj];by_cases hqj:q=j
         ·rw[if_pos hqj];exact h1 p (j-1) p1 (by omega) (by omega) (by omega) (by omega)
         ·rw[if_neg hqj];exact h1 p q p1 p2 p3 hpj hqj
       ·rw[hg (j-1),if_pos rfl,hg q,if_neg (by omega)]
        by_cases hqj:q=j
        ·rw[if_pos hqj];omega
        ·rw[if_neg hqj];exact h2 q (by omega) q2
      ·try simp -implicitDefEqProofs (disch:=first|exact dsc|fail)[hlt]
       have:=ih (i+1) (by omega) (by omega) S ys hS hc hsw (fun p q g1 g2 g3=>by
        by_cases hp:p=j
        ·subst hp;exact h2 q g2 (by omega)
        ·by_cases hq:q=j
         ·subst hq;by_cases hp1:p=q-1
          ·subst hp1;omega
          ·have:=h1 p (q-1) g1 (by omega) (by omega) (by omega) (by omega);omega
         ·exact h1 p q g1 g2 (by omega) hp hq)
       simpa using this
    exact inner (i-a) i (by omega) (by omega) S ys hS hc hsw (fun p q p1 p2 p3 p4 p5=>hsr p q p1 p2 (by omega)) (fun q q1 q2=>by omega)
   ·try simp -implicitDefEqProofs (disch:=first|exact dsc|fail)[hib]
    exact A0a (hq S ys hS hc hsw (fun p q h1 h2 h3=>hsr p q h1 h2 (by omega)))
 have:=key (b-a) (a+1) (by omega) (by omega) s xs hv ⟨Nat.le_refl _,fun _ _=>rfl⟩ .refl (fun i j h1 h2 h3=>by omega)
 simpa using this
theorem D7f{v:Value}{ρ:Option Nat}{xs:List Int}{a b:Nat}{Q:Post}{s:St}(hv:(intE .i64).Own s v ρ xs)(hlen:xs.length<1000000000)(hab:a<b)(hb:b<=xs.length)
  (hq:∀S ys,(intE .i64).Own S v ρ ys->Chg s S (Row ρ)->Sw a b xs ys->Q (.tuple #[]) S):CC X 172 [v,.int .i64 a,.int .i64 b] Q s:=by
 refine E95 rfl ?_
 try simp -implicitDefEqProofs (disch:=first|exact dsc|fail)[]
 refine C9x fun I hI=>?_;have key:∀k i j:Nat,j-i<=k->a<=i->j<b->∀S ys,(intE .i64).Own S v ρ ys->Chg s S (Row ρ)->Sw a b xs ys->I v (.int .i64 i) (.int .i64 j) S:=by
  intro k;induction k with
  | zero=>
   intro i j hk hi hj S ys hS hc hsw;refine hI _ _ _ _ ?_;have h1:¬i<j:=by omega
   try simp -implicitDefEqProofs (disch:=first|exact dsc|fail)[h1]
   exact A0a (hq S ys hS hc hsw)
  | succ k ih=>
   intro i j hk hi hj S ys hS hc hsw;refine hI _ _ _ _ ?_;by_cases hij:i<j
   ·have hl:=hsw.length;have hil:i<ys.length:=by omega
    have hjl:j<ys.length:=by omega
    have hSI:=hS.in_;have hj1:(j:Int)-1=(j-1:Nat):=by omega
    try simp -implicitDefEqProofs (disch:=first|exact dsc|fail)[hij,hSI.idx,hSI.get]
    refine A0x hS hil hjl rfl rfl A1e (by simp) (by omega) fun S' g1 g2 g3=>?_
    try simp -implicitDefEqProofs (disch:=first|exact dsc|fail)[hj1]
    have:=ih (i+1) (j-1) (by omega) (by omega) (by omega) S' _ g1 (hc.trans g2 (fun b hb=>.inl hb)) (hsw.swap hi (by omega) (by omega) hj)
    simpa using this
   ·try simp -implicitDefEqProofs (disch:=first|exact dsc|fail)[hij]
    exact A0a (hq S ys hS hc hsw)
 have hb1:(b:Int)-1=(b-1:Nat):=by omega
 rw[hb1];exact key b a (b-1) (by omega) (by omega) (by omega) s xs hv ⟨Nat.le_refl _,fun _ _=>rfl⟩ .refl
def Hp_i(xs:List Int)(f lo hi but:Nat):Prop:=∀k c,lo<=k->k≠but->(c=2*k+1\/c=2*k+2)->c<hi->gt xs (f+c)<=gt xs (f+k)
theorem B7r{v:Value}{ρ:Option Nat}{xs:List Int}{lo hi f:Nat}{Q:Post}{s:St}(hv:(intE .i64).Own s v ρ xs)(hlen:xs.length<1000000000)(hlo:lo<hi)(hb:f+hi<=xs.length)(hh:Hp_i xs f lo hi lo)
  (hq:∀S ys,(intE .i64).Own S v ρ ys->Chg s S (Row ρ)->Sw (f+lo) (f+hi) xs ys->Hp_i ys f lo hi hi->Q (.tuple #[]) S):CC X 188 [v,.int .i64 lo,.int .i64 hi,.int .i64 f] Q s:=by
 refine D2d rfl ?_
 try simp -implicitDefEqProofs (disch:=first|exact dsc|fail)[]
 refine B7c fun I hI=>?_;have key:∀k r:Nat,hi-r<=k->lo<=r->r<hi->∀S ys,(intE .i64).Own S v ρ ys->Chg s S (Row ρ)->Sw (f+lo) (f+hi) xs ys->Hp_i ys f lo hi r->(∀p c,lo<=p->(r=2*p+1\/r=2*p+2)->(c=2*r+1\/c=2*r+2)->c<hi->gt ys (f+c)<=gt ys (f+p))->
   I v (.int .i64 hi) (.int .i64 f) (.int .i64 r) S:=by
  intro k;induction k with
  | zero=>intro r hk _ hr;omega
  | succ k ih=>
   intro r hk hlr hr S ys hS hc hsw h1 h2;refine hI _ _ _ _ _ ?_;have hl:=hsw.length;have hSI:=hS.in_;by_cases hc1:2*r+1<hi
   ·-- the child that is greater
    have go:∀(c:Nat) (ci:Int),ci=c->(c=2*r+1\/c=2*r+2)->c<hi->(∀d,(d=2*r+1\/d=2*r+2)->d<hi->gt ys (f+d)<=gt ys (f+c))->
      A8j (CC X) (C00 (CC X) Q s) I v (.int .i64 hi) (.int .i64 f) (.int .i64 r) (.int .i64 ci) S:=by
     rintro c _ rfl hcc hch hmax;have hfr:f+r<ys.length:=by omega
     have hfc:f+c<ys.length:=by omega
     try simp -implicitDefEqProofs (disch:=first|exact dsc|fail)[hSI.idx,hSI.get]
     refine A6z ?_;by_cases hlt:gt ys (f+r)<gt ys (f+c)
     ·try simp -implicitDefEqProofs (disch:=first|exact dsc|fail)[hlt,hSI.idx,hSI.get]
      refine A0x hS hfr hfc rfl rfl A1e (by simp) (by omega) fun S' g1 g2 g3=>?_
      have hg:∀k,gt (swp ys (f+r) (f+c)) k=if k=f+c then gt ys (f+r)else if k=f+r then gt ys (f+c)else gt ys k:=fun k=>A20 hfr hfc
      refine ih c (by omega) (by omega) hch S' _ g1 (hc.trans g2 (fun b hb=>.inl hb)) (hsw.swap (by omega) (by omega) (by omega) (by omega)) (fun p d p1 p2 p3 p4=>?_) (fun p d p1 p2 p3 p4=>?_)
      ·rw[hg,hg];by_cases hpr:p=r
       ·subst hpr;rw[if_neg (show ¬f+p=f+c by omega),if_pos rfl]
        by_cases hdc:d=c
        ·rw[if_pos (by omega)];omega
        ·rw[if_neg (by omega),if_neg (by omega)];exact hmax d p3 p4
       ·rw[if_neg (show ¬f+p=f+c by omega),if_neg (show ¬f+p=f+r by omega)]
        have:=h1 p d p1 hpr p3 p4;by_cases hdc:d=c
        ·omega
        ·by_cases hdr:d=r
         ·subst hdr;rw[if_neg (by omega),if_pos rfl]
          exact h2 p c p1 p3 hcc hch
         ·rw[if_neg (by omega),if_neg (by omega)];exact this
      ·have hpr:p=r:=by omega
       subst hpr;rw[hg,hg,if_neg (show ¬f+d=f+c by omega),if_neg (show ¬f+d=f+p by omega),if_neg (show ¬f+p=f+c by omega),if_pos rfl]
       exact h1 c d (by omega) (by omega) p3 p4
     ·try simp -implicitDefEqProofs (disch:=first|exact dsc|fail)[hlt]
      exact A0a (hq S ys hS hc hsw (fun p d p1 p2 p3 p4=>by
       by_cases hpr:p=r
       ·subst hpr;have:=hmax d p3 p4;omega
       ·exact h1 p d p1 hpr p3 p4))
    have hcn:¬(hi:Int)<=2*r+1:=by omega
    have t1:((f:Int)+(2*r+1)).toNat=f+(2*r+1):=by omega
    have t2:((f:Int)+(2*r+1)+1).toNat=f+(2*r+2):=by omega
    by_cases hc2:2*r+2<hi
    ·have hd2:2*(r:Int)+1+1<(hi:Int):=by omega
     simp -implicitDefEqProofs (disch:=first|exact dsc|fail)[-B0r,-A8j,wrap_i64,A0n,B0j,hcn,hd2,t1,t2,hSI.idx,hSI.get];refine A6z ?_;by_cases hlt:gt ys (f+(2*r+1))<gt ys (f+(2*r+2))
     ·simp -implicitDefEqProofs (disch:=first|exact dsc|fail)[-B0r,-A8j,-B0j,hlt];exact go (2*r+2) _ (by omega) (.inr rfl) hc2 (fun d hd _=>by rcases hd with h|h<;>subst h<;>omega)
     ·simp -implicitDefEqProofs (disch:=first|exact dsc|fail)[-B0r,-A8j,-B0j,hlt];exact go (2*r+1) _ (by omega) (.inl rfl) hc1 (fun d hd _=>by rcases hd with h|h<;>subst h<;>omega)
    ·have hd2:¬2*(r:Int)+1+1<(hi:Int):=by omega
     simp -implicitDefEqProofs (disch:=first|exact dsc|fail)[-B0r,-A8j,wrap_i64,A0n,B0j,hcn,hd2];exact go (2*r+1) _ (by omega) (.inl rfl) hc1 (fun d hd hdh=>by rcases hd with h|h<;>subst h<;>omega)
   ·have hcn:(hi:Int)<=2*r+1:=by omega
    try simp -implicitDefEqProofs (disch:=first|exact dsc|fail)[hcn]
    exact A0a (hq S ys hS hc hsw (fun p d p1 p2 p3 p4=>h1 p d p1 (by intro e;subst e;omega) p3 p4))
 exact key hi lo (by omega) (Nat.le_refl _) hlo s xs hv ⟨Nat.le_refl _,fun _ _=>rfl⟩ .refl hh (fun p c p1 p2=>by omega)
theorem C76{v:Value}{ρ:Option Nat}{xs:List Int}{a b:Nat}{Q:Post}{s:St}(hv:(intE .i64).Own s v ρ xs)(hlen:xs.length<1000000000)(hab:a<b)(hb:b<=xs.length)
  (hq:∀S ys,(intE .i64).Own S v ρ ys->Chg s S (Row ρ)->Sw a b xs ys->Srt ys a b->Q (.tuple #[]) S):CC X 169 [v,.int .i64 a,.int .i64 b] Q s:=by
 refine E9f rfl ?_
 try simp -implicitDefEqProofs (disch:=first|exact dsc|fail)[]
 obtain⟨n,hn⟩:∃n,n=b-a:=⟨_,rfl⟩;have hnb:(b:Int)-a=n:=by omega
 have hm:((n:Int)-1)/2=((n-1)/2:Nat):=by omega
 rw[hnb];refine C8s fun I hI=>?_;have fin:∀S ys,(intE .i64).Own S v ρ ys->Chg s S (Row ρ)->Sw a b xs ys->Hp_i ys a 0 n n->
   C0u (CC X) Q s v (.int .i64 a) (.int .i64 0) (.int .i64 n) S:=by
  intro S ys hS hc hsw hh;have hn1:(n:Int)-1=(n-1:Nat):=by omega
  try simp -implicitDefEqProofs (disch:=first|exact dsc|fail)[hn1]
  refine C8p fun I2 hI2=>?_;have top0:∀(ys:List Int) (m:Nat),Hp_i ys a 0 m m->∀c,c<m->gt ys (a+c)<=gt ys a:=by
   intro ys m hh c;induction c using Nat.strongRecOn with
   | _ c ih=>
    intro hcm;by_cases hc0:c=0
    ·subst hc0;simp
    ·have h1:=hh ((c-1)/2) c (Nat.zero_le _) (by omega) (by omega) hcm
     have h2:=ih ((c-1)/2) (by omega) (by omega)
     omega
  have key:∀m:Nat,m<=n->∀S ys,(intE .i64).Own S v ρ ys->Chg s S (Row ρ)->Sw a b xs ys->Hp_i ys a 0 m m->(∀i j,i<m->m<=j->j<n->gt ys (a+i)<=gt ys (a+j))->(∀i j,m<=i->i<j->j<n->gt ys (a+i)<=gt ys (a+j))->
    I2 v (.int .i64 a) (.int .i64 0) (.int .i64 ((m:Int)-1)) S:=by
   intro m;induction m with
   | zero=>
    intro _ S ys hS hc hsw hh h1 h2;refine hI2 _ _ _ _ _ ?_
    try simp -implicitDefEqProofs (disch:=first|exact dsc|fail)[]
    exact A0a (hq S ys hS hc hsw (fun i j g1 g2 g3=>by
     have:=h2 (i-a) (j-a) (by omega) (by omega) (by omega)
     rwa [show a+(i-a)=i by omega,show a+(j-a)=j by omega]at this))
   | succ m ih=>
    intro hmn S ys hS hc hsw hh h1 h2;refine hI2 _ _ _ _ _ ?_;have hl:=hsw.length;have hSI:=hS.in_;have e1:((m+1:Nat):Int)-1=m:=by omega
    have hal:a<ys.length:=by omega
    have ham:a+m<ys.length:=by omega
    rw[e1]
    try simp -implicitDefEqProofs (disch:=first|exact dsc|fail)[hSI.idx,hSI.get]
    refine A0x hS hal ham rfl rfl A1e (by simp) (by omega) fun S' g1 g2 g3=>?_
    try simp -implicitDefEqProofs (disch:=first|exact dsc|fail)[]
    have hg:∀k,gt (swp ys a (a+m)) k=if k=a+m then gt ys a else if k=a then gt ys (a+m)else gt ys k:=fun k=>A20 hal ham
    have hsw1:=hsw.swap (i:=a) (j:=a+m) (Nat.le_refl _) (by omega) (by omega) (by omega)
    have htop:=top0 ys (m+1) hh;have next:∀S2 zs,(intE .i64).Own S2 v ρ zs->Chg s S2 (Row ρ)->Sw a (a+m) (swp ys a (a+m)) zs->Hp_i zs a 0 m m->I2 v (.int .i64 a) (.int .i64 0) (.int .i64 ((m:Int)-1)) S2:=by
     intro S2 zs hS2 hc2 hsz hhz;have hlz:a+m<=(swp ys a (a+m)).length:=by simp;omega
     have hout:∀k,m<=k->gt zs (a+k)=gt (swp ys a (a+m)) (a+k):=fun k hk=>hsz.out hlz (.inr (by omega))
     refine ih (by omega) S2 zs hS2 hc2 (hsw1.trans (hsz.mono (Nat.le_refl _) (by omega))) hhz (fun i j p1 p2 p3=>?_) (fun i j p1 p2 p3=>?_)
     ·rw[hout j p2];refine hsz.all hlz (p:=fun x=>x<=gt (swp ys a (a+m)) (a+j)) (fun k k1 k2=>?_) (a+i) (by omega) (by omega)
      rw[hg,hg,if_neg (show ¬k=a+m by omega)]
      by_cases hjm:j=m
      ·subst hjm;rw[if_pos rfl];split
       ·exact htop j (by omega)
       ·have:=htop (k-a) (by omega);rwa [show a+(k-a)=k by omega]at this
      ·rw[if_neg (show ¬a+j=a+m by omega),if_neg (show ¬a+j=a by omega)]
       split
       ·exact h1 m j (by omega) (by omega) p3
       ·have:=h1 (k-a) j (by omega) (by omega) p3;rwa [show a+(k-a)=k by omega]at this
     ·rw[hout i p1,hout j (by omega),hg,hg,if_neg (show ¬a+j=a+m by omega),if_neg (show ¬a+j=a by omega)]
      by_cases him:i=m
      ·subst him;rw[if_pos rfl];exact h1 0 j (by omega) (by omega) p3
      ·rw[if_neg (by omega),if_neg (by omega)]
       exact h2 i j (by omega) p2 p3
    have hch1:=hc.trans g2 (fun b hb=>Or.inl hb);by_cases hm0:m=0
    ·subst hm0;have hsd:CC X 188 [v,.int .i64 0,.int .i64 0,.int .i64 a] (fun _ S3=>I2 v (.int .i64 a) (.int .i64 0) (.int .i64 (-1)) S3) S':=by
      refine D2d rfl ?_;simp -implicitDefEqProofs (disch:=first|exact dsc|fail)[-B0r,-A8j,-B0j,E66];refine B7c fun I3 hI3=>hI3 _ _ _ _ _ ?_
      try simp -implicitDefEqProofs (disch:=first|exact dsc|fail)[]
      have:=next S' _ g1 hch1 .refl (fun k c p1 p2 p3 p4=>by omega)
      simpa using this
     simp only[Int.ofNat_zero,Int.natCast_zero,Int.zero_sub]at *;refine A6p hsd fun _ S3 h3=>?_
     try simp -implicitDefEqProofs (disch:=first|exact dsc|fail)[]
     exact h3
    ·refine(B7r (lo:=0) g1 (by simp;omega) (by omega) (by simp;omega) (fun k c p1 p2 p3 p4=>?_) fun S2 zs q1 q2 q3 q4=>?_:CC X 188 [v,.int .i64 (0:Nat),.int .i64 m,.int .i64 a] _ S')
     ·rw[hg,hg,if_neg (show ¬a+c=a+m by omega),if_neg (show ¬a+c=a by omega),if_neg (show ¬a+k=a+m by omega),if_neg (show ¬a+k=a by omega)]
      exact hh k c (Nat.zero_le _) (by omega) p3 (by omega)
     ·try simp -implicitDefEqProofs (disch:=first|exact dsc|fail)[]
      exact next S2 zs q1 (hch1.trans q2 (fun b hb=>.inl hb)) (by simpa using q3) q4
  have:=key n (Nat.le_refl _) S ys hS hc hsw hh (fun i j h1 h2 h3=>by omega) (fun i j h1 h2 h3=>by omega)
  rwa [hn1]at this
 have key:∀m:Nat,2*m<=n+1->∀S ys,(intE .i64).Own S v ρ ys->Chg s S (Row ρ)->Sw a b xs ys->Hp_i ys a m n n->I v (.int .i64 a) (.int .i64 0) (.int .i64 n) (.int .i64 ((m:Int)-1)) S:=by
  intro m;induction m with
  | zero=>
   intro _ S ys hS hc hsw hh;refine hI _ _ _ _ _ _ ?_;simp -implicitDefEqProofs (disch:=first|exact dsc|fail)[-C0e,-C31,-C3q,-C4z,-C0u];exact fin S ys hS hc hsw hh
  | succ m ih=>
   intro hmn S ys hS hc hsw hh;refine hI _ _ _ _ _ _ ?_;have hl:=hsw.length;have e1:((m+1:Nat):Int)-1=m:=by omega
   rw[e1];simp -implicitDefEqProofs (disch:=first|exact dsc|fail)[-C0e,-C3q,-C4z,-C0u,-B0r,-A8j,-B0j,wrap_i64,A0n,C31];refine B7r (lo:=m) hS (by omega) (by omega) (by omega) (fun k c p1 p2 p3 p4=>hh k c (by omega) (by omega) p3 p4) fun S2 zs q1 q2 q3 q4=>?_
   simp -implicitDefEqProofs (disch:=omega) [wrap_i64,C0e];exact ih (by omega) S2 zs q1 (hc.trans q2 (fun b hb=>.inl hb)) (hsw.trans (q3.mono (by omega) (by omega))) q4
 by_cases h2:n=1
 ·subst h2;have:=key 1 (by omega) s xs hv ⟨Nat.le_refl _,fun _ _=>rfl⟩ .refl (fun k c p1 p2 p3 p4=>by omega)
  simpa using this
 ·have:=key ((n-1)/2+1) (by omega) s xs hv ⟨Nat.le_refl _,fun _ _=>rfl⟩ .refl (fun k c p1 p2 p3 p4=>by omega)
  rw[hm];simpa using this
structure B9m(s S:St)(p:Nat)(v:Value)(xs:List Int)(K:Int):Prop where
 in_:(intE .i64).In S v xs
 hp:∃c:Int,S.heap p=some (.cells [.int .i64 c] false)/\0<=c/\c<=K
 ge:s.next<=p
 lt:p<S.next
 old:Old s S
theorem B8u{s S:St}{p:Nat}{v:Value}{xs:List Int}{K:Int}(h:B9m s S p v xs K)(hK:K<1000)(hlen:xs.length<1000000000)(hvs:Bel s.next v){a b:Nat}(ha:a<xs.length)(hb:b<xs.length){Q:Post}
  (hq:∀x y S',B9m s S' p v xs (K+1)->(x=a/\y=b\/x=b/\y=a)->Q (.tuple #[.int .i64 (x:Nat),.int .i64 (y:Nat)]) S') :
  CC X 205 [v,.int .i64 a,.int .i64 b,.pointer (some ⟨p,0,none⟩)] Q S:=by
 refine F29 rfl ?_;have hI:=h.in_;obtain⟨c,hc,hc0,hc1⟩:=h.hp
 try simp -implicitDefEqProofs (disch:=first|exact dsc|fail)[hI.idx,hI.get]
 refine A6z ?_;by_cases hlt:gt xs b<gt xs a
 ·try simp -implicitDefEqProofs (disch:=first|exact dsc|fail)[hlt,hc]
  refine A0a (hq b a _ ⟨?_,⟨c+1,St.put_self,by omega,by omega⟩,h.ge,by simpa using h.lt,h.old.put h.ge⟩ (.inr ⟨rfl,rfl⟩))
  refine hI.chg (M:=fun b=>b=p) ⟨by simp,fun _ hb=>St.put_other hb⟩ (fun a l c e hm=>?_)
  rw[e]at hvs;have:=h.ge;simp at hvs;omega
 ·try simp -implicitDefEqProofs (disch:=first|exact dsc|fail)[hlt]
  exact hq a b S ⟨hI,⟨c,hc,hc0,by omega⟩,h.ge,h.lt,h.old⟩ (.inl ⟨rfl,rfl⟩)
theorem C56{s S:St}{p:Nat}{v:Value}{xs:List Int}{K:Int}(h:B9m s S p v xs K)(hK:K<900)(hlen:xs.length<1000000000)(hvs:Bel s.next v){a b c:Nat}(ha:a<xs.length)(hb:b<xs.length)(hc:c<xs.length){Q:Post}
  (hq:∀x S',B9m s S' p v xs (K+3)->(x=a\/x=b\/x=c)->Q (.int .i64 (x:Nat)) S') :
  CC X 190 [v,.int .i64 a,.int .i64 b,.int .i64 c,.pointer (some ⟨p,0,none⟩)] Q S:=by
 refine F13 rfl ?_
 try simp -implicitDefEqProofs (disch:=first|exact dsc|fail)[]
 refine B8u h (by omega) hlen hvs ha hb fun x y S1 h1 e1=>?_
 try simp -implicitDefEqProofs (disch:=first|exact dsc|fail)[]
 refine B8u h1 (by omega) hlen hvs (by omega) hc fun x2 y2 S2 h2 e2=>?_
 try simp -implicitDefEqProofs (disch:=first|exact dsc|fail)[]
 refine B8u h2 (by omega) hlen hvs (by omega) (by omega) fun x3 y3 S3 h3 e3=>?_
 try simp -implicitDefEqProofs (disch:=first|exact dsc|fail)[]
 exact A0a (hq y3 S3 (by have:=h3;rwa [show K+1+1+1=K+3 by omega]at this) (by omega))
theorem B0e{s S:St}{p:Nat}{v:Value}{xs:List Int}{K:Int}(h:B9m s S p v xs K)(hK:K<900)(hlen:xs.length<1000000000)(hvs:Bel s.next v){a:Nat}(h0:0<a)(ha:a+1<xs.length){Q:Post}
  (hq:∀x S',B9m s S' p v xs (K+3)->a-1<=x->x<=a+1->Q (.int .i64 (x:Nat)) S') :
  CC X 189 [v,.int .i64 a,.pointer (some ⟨p,0,none⟩)] Q S:=by
 refine F3j rfl ?_
 try simp -implicitDefEqProofs (disch:=first|exact dsc|fail)[]
 have e1:(a:Int)-1=(a-1:Nat):=by omega
 have:=C56 (X:=X) (a:=a-1) (b:=a) (c:=a+1) h hK hlen hvs (by omega) (by omega) ha (Q:=fun v S'=>kEnd Q S (some v) S') (fun x S' h1 e=>A0a (hq x S' h1 (by omega) (by omega)))
 rw[<-e1]at this;refine A6p (by simpa using this) fun v S' h=>?_
 try simp -implicitDefEqProofs (disch:=first|exact dsc|fail)[]
 exact h
theorem F7x{v:Value}{xs:List Int}{a b:Nat}{Q:Post}{s:St}(hv:(intE .i64).In s v xs)(hlen:xs.length<1000000000)(hab:a+12<b)(hb:b<=xs.length)
  (hq:∀(p:Nat) (h:Int),a<=p->p<b->Q (.tuple #[.int .i64 p,.int .i64 h]) s):CC X 171 [v,.int .i64 a,.int .i64 b] Q s:=by
 refine F55 rfl ?_;obtain⟨l,hl⟩:∃l,l=b-a:=⟨_,rfl⟩;have e0:(b:Int)-a=l:=by omega
 have e8:(8:Int)<=l:=by omega
 have hP0:B9m s (s.alloc (.cells [.int .i64 0] false)) s.next v xs 0:=⟨hv.old (by simp),⟨0,by simp,by omega,by omega⟩,Nat.le_refl _,by simp,by simp⟩
 obtain⟨i,hi⟩:∃i,i=a+l/4*1:=⟨_,rfl⟩;obtain⟨j,hj⟩:∃j,j=a+l/4*2:=⟨_,rfl⟩;obtain⟨k,hk⟩:∃k,k=a+l/4*3:=⟨_,rfl⟩;have fin:∀(x:Nat) S',B9m s S' s.next v xs 12->a<=x->x<b->B0f (CC X) Q s (.pointer (some ⟨s.next,0,none⟩)) (.int .i64 x) S':=by
  intro x S' h hx1 hx2;obtain⟨c,hc,hc0,hc1⟩:=h.hp
  try simp -implicitDefEqProofs (disch:=first|exact dsc|fail)[hc]
  have hk:∀h:Int,kEnd Q s (some (.tuple #[.int .i64 x,.int .i64 h])) S':=fun h2=>A0b h.old (A0p (by simp)) (hq x h2 hx1 hx2)
  split
  ·exact hk _
  ·split<;>exact hk _
 have mid:∀(x y z:Nat) S' K,B9m s S' s.next v xs K->K<=9->a<=x->x<b->a<=y->y<b->a<=z->z<b->A87 (CC X) Q s v (.pointer (some ⟨s.next,0,none⟩)) (.int .i64 x) (.int .i64 y) (.int .i64 z) S':=by
  intro x y z S' K h hK hx1 hx2 hy1 hy2 hz1 hz2;simp -implicitDefEqProofs [A0n,A87];refine C56 h (by omega) hlen hv.bel (by omega) (by omega) (by omega) fun w S2 h2 e=>?_
  refine fin w S2 ⟨h2.in_,?_,h2.ge,h2.lt,h2.old⟩ (by omega) (by omega)
  obtain⟨c,hc,hc0,hc1⟩:=h2.hp;exact⟨c,hc,hc0,by omega⟩
 have ei:(a:Int)+(l:Int)/4*1=i:=by omega
 have ej:(a:Int)+(l:Int)/4*2=j:=by omega
 have ek:(a:Int)+(l:Int)/4*3=k:=by omega
 have ei':(a:Int)+(l:Int)/4=i:=by omega
 have hl4:¬(l:Int)<0:=by omega
 by_cases h50:(50:Int)<=l
 ·try simp -implicitDefEqProofs (disch:=first|exact dsc|fail)[-B0f,-A87,e0,e8,ei,ei',ej,ek,h50]
  refine B0e hP0 (by omega) hlen hv.bel (by omega) (by omega) fun x S1 h1 x1 x2=>?_
  simp -implicitDefEqProofs (disch:=first|exact dsc|fail)[-B0f,-A87];refine B0e h1 (by omega) hlen hv.bel (by omega) (by omega) fun y S2 h2 y1 y2=>?_
  simp -implicitDefEqProofs (disch:=first|exact dsc|fail)[-B0f,-A87];refine B0e h2 (by omega) hlen hv.bel (by omega) (by omega) fun z S3 h3 z1 z2=>?_
  exact mid x y z S3 _ h3 (by omega) (by omega) (by omega) (by omega) (by omega) (by omega) (by omega)
 ·try simp -implicitDefEqProofs (disch:=first|exact dsc|fail)[-B0f,-A87,e0,e8,ei,ei',ej,ek,h50]
  exact mid i j k _ _ hP0 (by omega) (by omega) (by omega) (by omega) (by omega) (by omega) (by omega)
theorem C94{v:Value}{ρ:Option Nat}{xs:List Int}{a b:Nat}{Q:Post}{s:St}(hv:(intE .i64).Own s v ρ xs)(hlen:xs.length<16000000)(hab:a+12<b)(hb:b<=xs.length)
  (hq:∀S ys,(intE .i64).Own S v ρ ys->Chg s S (Row ρ)->Sw a b xs ys->Q (.tuple #[]) S):CC X 170 [v,.int .i64 a,.int .i64 b] Q s:=by
 refine F7k rfl ?_;obtain⟨l,hl⟩:∃l,l=b-a:=⟨_,rfl⟩;have e0:(b:Int)-a=l:=by omega
 have e8:(8:Int)<=l:=by omega
 have hρ:∀x,ρ=some x->x<s.next:=fun x hx=>by subst hx;exact hv.lt
 try simp -implicitDefEqProofs (disch:=first|exact dsc|fail)[e0,e8]
 refine B3m (n:=l) (by omega) (by omega) fun m hm1 hm2=>?_
 have e1:(a:Int)+(l:Int)/4*2-1=(a+l/4*2-1:Nat):=by omega
 try simp -implicitDefEqProofs (disch:=first|exact dsc|fail)[e1]
 refine D09 fun I hI=>?_;have key:∀k i:Nat,i+k=a+l/4*2+2->a+l/4*2-1<=i->∀S ys r,(intE .i64).Own S v ρ ys->Chg s S (Row ρ)->S.heap s.next=some (.cells [.int .u64 r] false)->s.next<S.next->Sw a b xs ys->
   I v (.int .i64 a) (.int .i64 l) (.pointer (some ⟨s.next,0,none⟩)) (.int .u64 m) (.int .i64 i) S:=by
  intro k;induction k with
  | zero=>
   intro i hk hi S ys r hS hc hp hn hsw;refine hI _ _ _ _ _ _ _ ?_;have h1:¬(i:Int)<=a+(l:Int)/4*2+1:=by omega
   try simp -implicitDefEqProofs (disch:=first|exact dsc|fail)[h1]
   exact A0a (hq S ys hS hc hsw)
  | succ k ih=>
   intro i hk hi S ys r hS hc hp hn hsw;refine hI _ _ _ _ _ _ _ ?_;have h1:(i:Int)<=a+(l:Int)/4*2+1:=by omega
   try simp -implicitDefEqProofs (disch:=first|exact dsc|fail)[-B4s,-B0c,-B5p,h1]
   simp -implicitDefEqProofs (disch:=first|exact dsc|fail)[-B4s,-B0c,A0n,B5p];refine C6j hp fun r'=>?_;obtain⟨b1,b2⟩:=D7j (a:=r') (b:=(m:Int)-1) (by omega) (by omega)
   have hne:some s.next≠ρ:=fun e=>by have:=hρ _ e.symm;omega
   have hS1:(intE .i64).Own (S.put s.next (.cells [.int .u64 r'] false)) v ρ ys:=hS.same (by simp) (fun b hb=>St.put_other (fun e=>hne (by rw[hb,e])))
   have hc1:Chg s (S.put s.next (.cells [.int .u64 r'] false)) (Row ρ):=⟨by simpa using hc.le,fun {b} hb hm=>by rw[St.put_other (by omega)];exact hc.eq hb hm⟩
   have hlen2:=hsw.length;have go:∀o:Nat,o<l->B0c (CC X) (C3v (CC X) Q s) I v (.int .i64 a) (.int .i64 l) (.pointer (some ⟨s.next,0,none⟩)) (.int .u64 m) (.int .i64 i) (.int .i64 o) (S.put s.next (.cells [.int .u64 r'] false)):=by
    intro o ho;have hi1:i<ys.length:=by omega
    have hao:a+o<ys.length:=by omega
    try simp -implicitDefEqProofs (disch:=first|exact dsc|fail)[hS1.in_.idx,hS1.in_.get]
    refine A0x hS1 hi1 hao rfl rfl A1e (by simp) (by omega) fun S' g1 g2 g3=>?_
    try simp -implicitDefEqProofs (disch:=first|exact dsc|fail)[]
    have:=ih (i+1) (by omega) (by omega) S' _ r' g1 (hc1.trans g2 (fun b hb=>.inl hb)) (by rw[g2.eq (by simpa using hn) (fun e=>hne e.symm)];simp) (by rw[g3];simpa using hn) (hsw.swap (by omega) (by omega) (by omega) (by omega))
    simpa using this
   obtain⟨o,ho⟩:∃o:Nat,bits .and .u64 r' ((m:Int)-1)=o:=⟨(bits .and .u64 r' ((m:Int)-1)).toNat,by omega⟩
   rw[ho]at b1 b2;by_cases hol:l<=o
   ·have hol':(l:Int)<=o:=by omega
    have e2:(o:Int)-l=(o-l:Nat):=by omega
    simp -implicitDefEqProofs (disch:=first|exact dsc|fail)[-B4s,-B0c,-B5p,ho,hol'];rw[e2];exact go (o-l) (by omega)
   ·have hol':¬(l:Int)<=o:=by omega
    simp -implicitDefEqProofs (disch:=first|exact dsc|fail)[-B4s,-B0c,-B5p,ho,hol'];exact go o (by omega)
 have:=key 3 (a+l/4*2-1) (by omega) (Nat.le_refl _) _ xs (IntKind.u64.wrap l) (hv.same (s':=s.alloc (.cells [.int .u64 (IntKind.u64.wrap l)] false)) (by simp) (fun b hb=>St.alloc_old (hρ b hb))) (Old.chg (by simp)) St.alloc_self (by simp) .refl
 have hw:IntKind.u64.wrap (l:Int)=l:=A65 (by omega) (by omega)
 rw[hw]at this;simpa using this
theorem E4n{v:Value}{ρ:Option Nat}{xs:List Int}{a b p:Nat}{Q:Post}{s:St}(hv:(intE .i64).Own s v ρ xs)(hlen:xs.length<16000000)(hap:a<=p)(hpb:p<b)(hb:b<=xs.length)
  (hq:∀S ys (m:Nat),(intE .i64).Own S v ρ ys->Chg s S (Row ρ)->Sw a b xs ys->a<m->m<=b->(∀i,a<=i->i<m->gt ys i<=gt xs p)->(∀i,m<=i->i<b->gt xs p<gt ys i)->Q (.int .i64 m) S):CC X 175 [v,.int .i64 a,.int .i64 b,.int .i64 p] Q s:=by
 refine F76 rfl ?_;have hI0:=hv.in_;have hpx:p<xs.length:=by omega
 have hax:a<xs.length:=by omega
 try simp -implicitDefEqProofs (disch:=first|exact dsc|fail)[hI0.idx,hI0.get]
 refine A0x hv hax hpx rfl rfl A1e (by simp) (by omega) fun S0 g1 g2 g3=>?_
 have hb1:(b:Int)-1=(b-1:Nat):=by omega
 try simp -implicitDefEqProofs (disch:=first|exact dsc|fail)[hb1]
 refine D0x fun I hI=>?_;have hpv:gt (swp xs a p) a=gt xs p:=by
  rw[A20 hax hpx];by_cases e:a=p
  ·subst e;simp
  ·simp[e]
 let R:List Int->Nat->Nat->Prop:=fun ys i j=>Sw a b xs ys/\gt ys a=gt xs p/\a<i/\i<=j+1/\j<b/\(∀k,a<=k->k<i->gt ys k<=gt xs p)/\(∀k,j<k->k<b->gt xs p<gt ys k);have key:∀n i j:Nat,j+1-i<=n->∀S ys,(intE .i64).Own S v ρ ys->Chg s S (Row ρ)->R ys i j->I v (.int .i64 a) (.int .i64 i) (.int .i64 j) S:=by
  intro n;induction n using Nat.strongRecOn with
  | _ n ih=>
   intro i j hn S ys hS hc ⟨hsw,hpa,hai,hij,hjb,h1,h2⟩;refine hI _ _ _ _ _ ?_;have hl:=hsw.length;have hSI:=hS.in_
   try simp -implicitDefEqProofs (disch:=first|exact dsc|fail)[]
   refine C8c fun I1 hI1=>?_;have k1:∀m i:Nat,j+1-i=m->j+1-i<=n->R ys i j->I1 v (.int .i64 a) (.int .i64 i) (.int .i64 j) S:=by
    intro m;induction m with
    | zero=>
     intro i hm hn ⟨hsw,hpa,hai,hij,hjb,h1,h2⟩;refine hI1 _ _ _ _ _ ?_;have hn1:¬(i:Int)<=j:=by omega
     try simp -implicitDefEqProofs (disch:=first|exact dsc|fail)[hn1]
     refine B7u fun I2 hI2=>hI2 _ _ _ _ _ ?_;have hgt:(j:Int)<i:=by omega
     try simp -implicitDefEqProofs (disch:=first|exact dsc|fail)[hn1,hgt]
     exact A0a (hq S ys i hS hc hsw hai (by omega) h1 (fun k k1 k2=>h2 k (by omega) k2))
    | succ m ihm=>
     intro i hm hn ⟨hsw,hpa,hai,hij,hjb,h1,h2⟩;refine hI1 _ _ _ _ _ ?_;have hle:(i:Int)<=j:=by omega
     have hil:i<ys.length:=by omega
     have hal:a<ys.length:=by omega
     try simp -implicitDefEqProofs (disch:=first|exact dsc|fail)[hle,hSI.idx,hSI.get]
     refine A6z ?_;by_cases hlt:gt ys a<gt ys i
     ·try simp -implicitDefEqProofs (disch:=first|exact dsc|fail)[hlt]
      refine B7u fun I2 hI2=>?_;have k2:∀m2 j:Nat,j+1-i=m2->j+1-i<=n->R ys i j->I2 v (.int .i64 a) (.int .i64 i) (.int .i64 j) S:=by
       intro m2;induction m2 with
       | zero=>
        intro j hm hn ⟨hsw,hpa,hai,hij,hjb,h1,h2⟩;refine hI2 _ _ _ _ _ ?_;have hn1:¬(i:Int)<=j:=by omega
        have hgt:(j:Int)<i:=by omega
        try simp -implicitDefEqProofs (disch:=first|exact dsc|fail)[hn1,hgt]
        exact A0a (hq S ys i hS hc hsw hai (by omega) h1 (fun k k1 k2=>h2 k (by omega) k2))
       | succ m2 ihm2=>
        intro j hm hn ⟨hsw,hpa,hai,hij,hjb,h1,h2⟩;refine hI2 _ _ _ _ _ ?_;have hle:(i:Int)<=j:=by omega
        have hngt:¬(j:Int)<i:=by omega
        have hjl:j<ys.length:=by omega
        have hj1:(j:Int)-1=(j-1:Nat):=by omega
        try simp -implicitDefEqProofs (disch:=first|exact dsc|fail)[hle,hSI.idx,hSI.get]
        refine A6z ?_;by_cases hlt2:gt ys a<gt ys j
        ·try simp -implicitDefEqProofs (disch:=first|exact dsc|fail)[hlt2,hj1]
         exact ihm2 (j-1) (by omega) (by omega) ⟨hsw,hpa,hai,by omega,by omega,h1,fun k k1 k2=>by
          by_cases e:k=j
          ·subst e;omega
          ·exact h2 k (by omega) k2⟩
        ·try simp -implicitDefEqProofs (disch:=first|exact dsc|fail)[hlt2,hngt,hSI.idx,hSI.get]
         have hne:i≠j:=fun e=>by subst e;exact hlt2 hlt
         refine A0x hS hil hjl rfl rfl A1e (by simp) (by omega) fun S' g1 g2 g3=>?_
         have hg:∀k,gt (swp ys i j) k=if k=j then gt ys i else if k=i then gt ys j else gt ys k:=fun k=>A20 hil hjl
         try simp -implicitDefEqProofs (disch:=first|exact dsc|fail)[hj1]
         have:=ih (n-1) (by omega) (i+1) (j-1) (by omega) S' _ g1 (hc.trans g2 (fun b hb=>.inl hb)) ⟨hsw.swap (by omega) (by omega) (by omega) hjb,by rw[hg,if_neg (by omega),if_neg (by omega)];exact hpa,by omega,by omega,by omega,fun k k1 k2=>by
           rw[hg,if_neg (by omega)]
           split
           ·omega
           ·exact h1 k k1 (by omega),fun k k1 k2=>by
           rw[hg];split
           ·omega
           ·rw[if_neg (by omega)];exact h2 k (by omega) k2⟩
         simpa using this
      exact k2 _ j rfl hn ⟨hsw,hpa,hai,hij,hjb,h1,h2⟩
     ·try simp -implicitDefEqProofs (disch:=first|exact dsc|fail)[hlt]
      have:=ihm (i+1) (by omega) (by omega) ⟨hsw,hpa,by omega,by omega,hjb,fun k k1 k2=>by
       by_cases e:k=i
       ·subst e;omega
       ·exact h1 k k1 (by omega),h2⟩
      simpa using this
   exact k1 _ i rfl hn ⟨hsw,hpa,hai,hij,hjb,h1,h2⟩
 have:=key b (a+1) (b-1) (by omega) S0 _ g1 g2 ⟨Sw.refl.swap (Nat.le_refl _) (by omega) hap hpb,hpv,by omega,by omega,by omega,fun k k1 k2=>by
  have:k=a:=by omega
  subst this;omega,fun k k1 k2=>by omega⟩
 simpa using this
def B9n(xs ys:List Int)(a b p i j:Nat):Prop:=Sw a b xs ys/\gt ys a=gt xs p/\a<i/\i<=j+1/\j<b/\(∀k,a<k->k<i->gt ys k<gt xs p)/\(∀k,j<k->k<b->gt xs p<=gt ys k)
theorem B9n.swap{xs ys:List Int}{a b p i j:Nat}(h:B9n xs ys a b p i j)(hb:b<=xs.length)(hij:i<j)(h1:¬gt ys i<gt ys a)(h2:gt ys j<gt ys a):B9n xs (swp ys i j) a b p (i+1) (j-1):=by
 obtain⟨hsw,hpa,hai,_,hjb,g1,g2⟩:=h;have hl:=hsw.length;have hg:∀k,gt (swp ys i j) k=if k=j then gt ys i else if k=i then gt ys j else gt ys k:=fun k=>A20 (by omega) (by omega)
 refine⟨hsw.swap (by omega) (by omega) (by omega) hjb,by rw[hg,if_neg (by omega),if_neg (by omega)];exact hpa,by omega,by omega,by omega,fun k k1 k2=>?_,fun k k1 k2=>?_⟩
 ·rw[hg,if_neg (by omega)]
  split
  ·omega
  ·exact g1 k k1 (by omega)
 ·rw[hg];split
  ·omega
  ·rw[if_neg (by omega)];exact g2 k (by omega) k2
theorem G88{v:Value}{ρ:Option Nat}{xs:List Int}{a b p:Nat}{Q:Post}{s:St}(hv:(intE .i64).Own s v ρ xs)(hlen:xs.length<16000000)(hap:a<=p)(hpb:p<b)(hb:b<=xs.length)
  (hq:∀S ys (m:Nat) (al:Bool),(intE .i64).Own S v ρ ys->Chg s S (Row ρ)->Sw a b xs ys->a<=m->m<b->(∀i,a<=i->i<m->gt ys i<=gt ys m)->(∀i,m<i->i<b->gt ys m<=gt ys i)->Q (.tuple #[.int .i64 m,.bool al]) S):CC X 176 [v,.int .i64 a,.int .i64 b,.int .i64 p] Q s:=by
 refine F3z rfl ?_;have hI0:=hv.in_;have hpx:p<xs.length:=by omega
 have hax:a<xs.length:=by omega
 try simp -implicitDefEqProofs (disch:=first|exact dsc|fail)[hI0.idx,hI0.get]
 refine A0x hv hax hpx rfl rfl A1e (by simp) (by omega) fun S0 g1 g2 g3=>?_
 have hb1:(b:Int)-1=(b-1:Nat):=by omega
 try simp -implicitDefEqProofs (disch:=first|exact dsc|fail)[hb1]
 have hpv:gt (swp xs a p) a=gt xs p:=by
  rw[A20 hax hpx];by_cases e:a=p
  ·subst e;simp
  ·simp[e]
 have fin:∀S ys (i j:Nat),(intE .i64).Own S v ρ ys->Chg s S (Row ρ)->B9n xs ys a b p i j->j<i->∀al:Bool,∀S',(intE .i64).Own S' v ρ (swp ys j a)->Chg S S' (Row ρ)->Q (.tuple #[.int .i64 j,.bool al]) S':=by
  intro S ys i j hS hc ⟨hsw,hpa,hai,hij,hjb,h1,h2⟩ hji al S' q1 q2;have hl:=hsw.length;have hg:∀k,gt (swp ys j a) k=if k=a then gt ys j else if k=j then gt ys a else gt ys k:=fun k=>A20 (by omega) (by omega)
  have hpj:gt (swp ys j a) j=gt xs p:=by
   rw[hg];split
   ·rename_i e;rw[e];exact hpa
   ·simp[hpa]
  refine hq S' _ j al q1 (hc.trans q2 (fun b hb=>.inl hb)) (hsw.swap (by omega) hjb (Nat.le_refl _) (by omega)) (by omega) hjb (fun k k1 k2=>?_) (fun k k1 k2=>?_)
  ·rw[hpj,hg];split
   ·have:=h1 j (by omega) (by omega);omega
   ·rw[if_neg (by omega)];have:=h1 k (by omega) (by omega);omega
  ·rw[hpj,hg,if_neg (by omega),if_neg (by omega)]
   exact h2 k k1 k2
 refine D0j fun I0 hI0=>?_;have key0:∀m i:Nat,b-i=m->∀S ys,(intE .i64).Own S v ρ ys->Chg s S (Row ρ)->B9n xs ys a b p i (b-1)->I0 v (.int .i64 a) (.int .i64 i) (.int .i64 (b-1:Nat)) S:=by
  intro m;induction m with
  | zero=>
   intro i hm S ys hS hc hR;have hR':=hR;obtain⟨hsw,hpa,hai,hij,hjb,h1,h2⟩:=hR;refine hI0 _ _ _ _ _ ?_;have hl:=hsw.length;have hSI:=hS.in_;have hn1:¬(i:Int)<=(b-1:Nat):=by omega
   try simp -implicitDefEqProofs (disch:=first|exact dsc|fail)[hn1]
   refine B7s fun I1 hI1=>hI1 _ _ _ _ _ ?_;have hgt:((b-1:Nat):Int)<i:=by omega
   have hjl:b-1<ys.length:=by omega
   have hal:a<ys.length:=by omega
   try simp -implicitDefEqProofs (disch:=first|exact dsc|fail)[hn1,hgt,hSI.idx,hSI.get]
   refine A0x hS hjl hal rfl rfl A1e (by simp) (by omega) fun S' q1 q2 q3=>?_
   try simp -implicitDefEqProofs (disch:=first|exact dsc|fail)[]
   exact A0a (fin S ys i (b-1) hS hc hR' (by omega) _ S' q1 q2)
  | succ m ih=>
   intro i hm S ys hS hc hR;have hR':=hR;obtain⟨hsw,hpa,hai,hij,hjb,h1,h2⟩:=hR;refine hI0 _ _ _ _ _ ?_;have hl:=hsw.length;have hSI:=hS.in_;have hle:(i:Int)<=(b-1:Nat):=by omega
   have hil:i<ys.length:=by omega
   have hal:a<ys.length:=by omega
   try simp -implicitDefEqProofs (disch:=first|exact dsc|fail)[hle,hSI.idx,hSI.get]
   refine A6z ?_;by_cases hlt:gt ys i<gt ys a
   ·try simp -implicitDefEqProofs (disch:=first|exact dsc|fail)[hlt]
    have:=ih (i+1) (by omega) S ys hS hc ⟨hsw,hpa,by omega,by omega,hjb,fun k k1 k2=>by
     by_cases e:k=i
     ·subst e;omega
     ·exact h1 k k1 (by omega),h2⟩
    simpa using this
   ·try simp -implicitDefEqProofs (disch:=first|exact dsc|fail)[hlt]
    refine B7s fun I1 hI1=>?_;have key1:∀m j:Nat,j+1-i=m->B9n xs ys a b p i j->I1 v (.int .i64 a) (.int .i64 i) (.int .i64 j) S:=by
     intro m;induction m with
     | zero=>
      intro j hm hR;have hR':=hR;obtain⟨hsw,hpa,hai,hij,hjb,h1,h2⟩:=hR;refine hI1 _ _ _ _ _ ?_;have hn1:¬(i:Int)<=j:=by omega
      have hgt:(j:Int)<i:=by omega
      have hjl:j<ys.length:=by omega
      try simp -implicitDefEqProofs (disch:=first|exact dsc|fail)[hn1,hgt,hSI.idx,hSI.get]
      refine A0x hS hjl hal rfl rfl A1e (by simp) (by omega) fun S' q1 q2 q3=>?_
      try simp -implicitDefEqProofs (disch:=first|exact dsc|fail)[]
      exact A0a (fin S ys i j hS hc hR' (by omega) _ S' q1 q2)
     | succ m ihm=>
      intro j hm hR;have hR':=hR;obtain⟨hsw,hpa,hai,hij,hjb,h1,h2⟩:=hR;refine hI1 _ _ _ _ _ ?_;have hle:(i:Int)<=j:=by omega
      have hngt:¬(j:Int)<i:=by omega
      have hjl:j<ys.length:=by omega
      have hj1:(j:Int)-1=(j-1:Nat):=by omega
      try simp -implicitDefEqProofs (disch:=first|exact dsc|fail)[hle,hSI.idx,hSI.get]
      refine A6z ?_;by_cases hlt2:gt ys j<gt ys a
      ·try simp -implicitDefEqProofs (disch:=first|exact dsc|fail)[-C4i,-C30,-C5b,-C29,-C4d,-C3d,-B91,-B8t,-B9w,-B84,-B9q,hlt2]
       simp -implicitDefEqProofs (disch:=first|exact dsc|fail)[-C4i,-C30,-C5b,-C29,-C4d,-C3d,-B91,-B8t,-B9q,wrap_i64,B0l,B84,B9w,hngt,hSI.idx,hSI.get,hj1];have hne:i≠j:=fun e=>by subst e;exact hlt hlt2
       refine A0x hS hil hjl rfl rfl A1e (by simp) (by omega) fun S1 q1 q2 q3=>?_
       try simp -implicitDefEqProofs (disch:=first|exact dsc|fail)[hj1]
       refine C8e fun I2 hI2=>?_;have key2:∀n i j:Nat,j+1-i<=n->∀S ys,(intE .i64).Own S v ρ ys->Chg s S (Row ρ)->B9n xs ys a b p i j->I2 v (.int .i64 a) (.int .i64 i) (.int .i64 j) S:=by
        intro n;induction n using Nat.strongRecOn with
        | _ n ihn=>
         intro i j hn S ys hS hc hR;refine hI2 _ _ _ _ _ ?_;have hl:=hR.1.length;have hSI:=hS.in_;have hjb0:=hR.2.2.2.2.1;have hai0:=hR.2.2.1
         try simp -implicitDefEqProofs (disch:=first|exact dsc|fail)[]
         refine C9h fun I3 hI3=>?_;have key3:∀m i:Nat,j+1-i=m->j+1-i<=n->B9n xs ys a b p i j->I3 v (.int .i64 a) (.int .i64 i) (.int .i64 j) S:=by
          intro m;induction m with
          | zero=>
           intro i hm hn hR;have hR':=hR;obtain⟨hsw,hpa,hai,hij,hjb,h1,h2⟩:=hR;refine hI3 _ _ _ _ _ ?_;have hn1:¬(i:Int)<=j:=by omega
           have hgt:(j:Int)<i:=by omega
           have hjl:j<ys.length:=by omega
           have hal:a<ys.length:=by omega
           try simp -implicitDefEqProofs (disch:=first|exact dsc|fail)[hn1]
           refine B7h fun I4 hI4=>hI4 _ _ _ _ _ ?_
           try simp -implicitDefEqProofs (disch:=first|exact dsc|fail)[hn1,hgt,hSI.idx,hSI.get]
           refine A0x hS hjl hal rfl rfl A1e (by simp) (by omega) fun S' q1 q2 q3=>?_
           try simp -implicitDefEqProofs (disch:=first|exact dsc|fail)[]
           exact A0a (fin S ys i j hS hc hR' (by omega) _ S' q1 q2)
          | succ m ihm3=>
           intro i hm hn hR;have hR':=hR;obtain⟨hsw,hpa,hai,hij,hjb,h1,h2⟩:=hR;refine hI3 _ _ _ _ _ ?_;have hle:(i:Int)<=j:=by omega
           have hil:i<ys.length:=by omega
           have hal:a<ys.length:=by omega
           try simp -implicitDefEqProofs (disch:=first|exact dsc|fail)[hle,hSI.idx,hSI.get]
           refine A6z ?_;by_cases hlt:gt ys i<gt ys a
           ·try simp -implicitDefEqProofs (disch:=first|exact dsc|fail)[hlt]
            have:=ihm3 (i+1) (by omega) (by omega) ⟨hsw,hpa,by omega,by omega,hjb,fun k k1 k2=>by
             by_cases e:k=i
             ·subst e;omega
             ·exact h1 k k1 (by omega),h2⟩
            simpa using this
           ·try simp -implicitDefEqProofs (disch:=first|exact dsc|fail)[hlt]
            refine B7h fun I4 hI4=>?_;have key4:∀m j:Nat,j+1-i=m->j+1-i<=n->B9n xs ys a b p i j->I4 v (.int .i64 a) (.int .i64 i) (.int .i64 j) S:=by
             intro m;induction m with
             | zero=>
              intro j hm hn hR;have hR':=hR;obtain⟨hsw,hpa,hai,hij,hjb,h1,h2⟩:=hR;refine hI4 _ _ _ _ _ ?_;have hn1:¬(i:Int)<=j:=by omega
              have hgt:(j:Int)<i:=by omega
              have hjl:j<ys.length:=by omega
              try simp -implicitDefEqProofs (disch:=first|exact dsc|fail)[hn1,hgt,hSI.idx,hSI.get]
              refine A0x hS hjl hal rfl rfl A1e (by simp) (by omega) fun S' q1 q2 q3=>?_
              try simp -implicitDefEqProofs (disch:=first|exact dsc|fail)[]
              exact A0a (fin S ys i j hS hc hR' (by omega) _ S' q1 q2)
             | succ m ihm4=>
              intro j hm hn hR;have hR':=hR;obtain⟨hsw,hpa,hai,hij,hjb,h1,h2⟩:=hR;refine hI4 _ _ _ _ _ ?_;have hle:(i:Int)<=j:=by omega
              have hngt:¬(j:Int)<i:=by omega
              have hjl:j<ys.length:=by omega
              have hj1:(j:Int)-1=(j-1:Nat):=by omega
              try simp -implicitDefEqProofs (disch:=first|exact dsc|fail)[hle,hSI.idx,hSI.get]
              refine A6z ?_;by_cases hlt2:gt ys j<gt ys a
              ·have hne:i≠j:=fun e=>by subst e;exact hlt hlt2
               try simp -implicitDefEqProofs (disch:=first|exact dsc|fail)[hlt2,hngt,hSI.idx,hSI.get]
               refine A0x hS hil hjl rfl rfl A1e (by simp) (by omega) fun S1 q1 q2 q3=>?_
               try simp -implicitDefEqProofs (disch:=first|exact dsc|fail)[hj1]
               have:=ihn (n-1) (by omega) (i+1) (j-1) (by omega) S1 _ q1 (hc.trans q2 (fun b hb=>.inl hb)) (hR'.swap hb (by omega) hlt hlt2)
               simpa using this
              ·try simp -implicitDefEqProofs (disch:=first|exact dsc|fail)[hlt2,hj1]
               exact ihm4 (j-1) (by omega) (by omega) ⟨hsw,hpa,hai,by omega,by omega,h1,fun k k1 k2=>by
                by_cases e:k=j
                ·subst e;omega
                ·exact h2 k (by omega) k2⟩
            exact key4 _ j rfl hn hR'
         exact key3 _ i rfl hn hR
       have:=key2 b (i+1) (j-1) (by omega) S1 _ q1 (hc.trans q2 (fun b hb=>.inl hb)) (hR'.swap hb (by omega) hlt hlt2)
       simpa using this
      ·try simp -implicitDefEqProofs (disch:=first|exact dsc|fail)[hlt2,hj1]
       exact ihm (j-1) (by omega) ⟨hsw,hpa,hai,by omega,by omega,h1,fun k k1 k2=>by
        by_cases e:k=j
        ·subst e;omega
        ·exact h2 k (by omega) k2⟩
    exact key1 _ (b-1) rfl hR'
 have:=key0 _ (a+1) rfl S0 _ g1 g2 ⟨Sw.refl.swap (Nat.le_refl _) (by omega) hap hpb,hpv,by omega,by omega,by omega,fun k k1 k2=>by omega,fun k k1 k2=>by omega⟩
 simpa using this
theorem D2e{v:Value}{ρ:Option Nat}{xs:List Int}{a b:Nat}{Q:Post}{s:St}(hv:(intE .i64).Own s v ρ xs)(hlen:xs.length<16000000)(hab:a<b)(hb:b<=xs.length)(hpre:Pre xs a b)
  (hq:∀S ys (r:Bool),(intE .i64).Own S v ρ ys->Chg s S (Row ρ)->Sw a b xs ys->(r=true->Srt ys a b)->Q (.bool r) S):CC X 173 [v,.int .i64 a,.int .i64 b] Q s:=by
 refine F7i rfl ?_
 try simp -implicitDefEqProofs (disch:=first|exact dsc|fail)[]
 refine D0s fun I hI=>?_;have key:∀t n:Nat,n+t=5->∀(i:Nat) S ys u,(intE .i64).Own S v ρ ys->Chg s S (Row ρ)->Sw a b xs ys->a<i->i<=b->Srt ys a i->I v (.int .i64 a) (.int .i64 b) u (.int .i64 i) (.int .i64 n) S:=by
  intro t;induction t with
  | zero=>
   intro n hn i S ys u hS hc hsw hai hib hsr;refine hI _ _ _ _ _ _ _ ?_;have h5:¬(n:Int)<5:=by omega
   try simp -implicitDefEqProofs (disch:=first|exact dsc|fail)[h5]
   exact A0a (hq S ys false hS hc hsw (by simp))
  | succ t iht=>
   intro n hn i S ys u hS hc hsw hai hib hsr;refine hI _ _ _ _ _ _ _ ?_;have h5:(n:Int)<5:=by omega
   try simp -implicitDefEqProofs (disch:=first|exact dsc|fail)[h5]
   refine D16 fun I1 hI1=>?_;have hl:=hsw.length;have hSI:=hS.in_;have k1:∀m i:Nat,i+m=b->a<i->Srt ys a i->I1 v (.int .i64 a) (.int .i64 b) (.int .i64 i) (.int .i64 n) S:=by
    intro m;induction m with
    | zero=>
     intro i hm hai hsr;refine hI1 _ _ _ _ _ _ ?_;have hib:i=b:=by omega
     subst hib
     try simp -implicitDefEqProofs (disch:=first|exact dsc|fail)[]
     exact A0a (hq S ys true hS hc hsw (fun _=>hsr))
    | succ m ihm=>
     intro i hm hai hsr;refine hI1 _ _ _ _ _ _ ?_;have hib:i<b:=by omega
     have hil:i<ys.length:=by omega
     have hi1l:i-1<ys.length:=by omega
     have hi1:(i:Int)-1=(i-1:Nat):=by omega
     try simp -implicitDefEqProofs (disch:=first|exact dsc|fail)[hib,hi1,hSI.idx,hSI.get]
     refine A6z ?_;by_cases hlt:gt ys i<gt ys (i-1)
     ·have hne:¬(i:Int)=b:=by omega
      by_cases h50:(b:Int)-a<50
      ·try simp -implicitDefEqProofs (disch:=first|exact dsc|fail)[hlt,hne,h50]
       exact A0a (hq S ys false hS hc hsw (by simp))
      ·try simp -implicitDefEqProofs (disch:=first|exact dsc|fail)[-A36,-A3w,-A4k,-A4f,-A3z,-A4b,-A4h,-A3h,-A12,-A2l,-A2h,-A2g,-A2f,-A2i,hlt]
       simp -implicitDefEqProofs (disch:=first|exact dsc|fail)[-A36,-A3w,-A4k,-A4f,-A3z,-A4b,-A4h,-A3h,-A12,-A2f,-A2i,wrap_i64,A2g,A2h,A2l,hne,h50,hi1,hSI.idx,hSI.get];refine A0x hS hil hi1l rfl rfl A1e (by simp) (by omega) fun S1 q1 q2 q3=>?_
       have hg:∀k,gt (swp ys i (i-1)) k=if k=i-1 then gt ys i else if k=i then gt ys (i-1)else gt ys k:=fun k=>A20 hil hi1l
       have hsw1:=hsw.swap (i:=i) (j:=i-1) (by omega) (by omega) (by omega) (by omega)
       have hc1:=hc.trans q2 (fun b hb=>Or.inl hb);have tail:∀S2 zs u,(intE .i64).Own S2 v ρ zs->Chg s S2 (Row ρ)->Sw a b xs zs->Srt zs a i->A12 (CC X) (B1t (CC X) Q s) I v (.int .i64 a) (.int .i64 b) u (.int .i64 i) (.int .i64 n) S2:=by
        intro S2 zs u hS2 hc2 hsw2 hsr2;have fin:∀S3 ws u,(intE .i64).Own S3 v ρ ws->Chg s S3 (Row ρ)->Sw a b xs ws->Srt ws a i->A3h (CC X) (B1t (CC X) Q s) I v (.int .i64 a) (.int .i64 b) u (.int .i64 i) (.int .i64 n) S3:=by
         intro S3 ws u hS3 hc3 hsw3 hsr3
         try simp -implicitDefEqProofs (disch:=first|exact dsc|fail)[]
         have:=iht (n+1) (by omega) i S3 ws u hS3 hc3 hsw3 hai (by omega) hsr3
         simpa using this
        by_cases h2:(2:Int)<=(b:Int)-i
        ·simp -implicitDefEqProofs (disch:=first|exact dsc|fail)[-A36,-A3w,-A4k,-A4f,-A3z,-A4b,-A4h,-A3h,-A2l,-A2h,-A2g,-A2f,-A2i,wrap_i64,A12,h2];refine D0d fun I3 hI3=>?_;have k3:∀m j:Nat,j+m=b->i<j->∀S3 ws,(intE .i64).Own S3 v ρ ws->Chg s S3 (Row ρ)->Sw a b xs ws->Srt ws a i->I3 v (.int .i64 a) (.int .i64 b) (.int .i64 i) (.int .i64 n) (.int .i64 j) S3:=by
          intro m;induction m with
          | zero=>
           intro j hm hij S3 ws hS3 hc3 hsw3 hsr3;refine hI3 _ _ _ _ _ _ _ ?_;have hjb:¬(j:Int)<b:=by omega
           have hjb':¬j<b:=by omega
           try simp -implicitDefEqProofs (disch:=first|exact dsc|fail)[-A36,-A3w,-A4k,-A4f,-A3z,-A4b,-A4h,-A3h,-A12,-A2l,-A2h,-A2g,-A2f,-A2i,hjb,hjb']
           exact fin S3 ws _ hS3 hc3 hsw3 hsr3
          | succ m ihm3=>
           intro j hm hij S3 ws hS3 hc3 hsw3 hsr3;refine hI3 _ _ _ _ _ _ _ ?_;have hjb:j<b:=by omega
           have hl3:=hsw3.length;have hjl:j<ws.length:=by omega
           have hj1l:j-1<ws.length:=by omega
           have hj1:(j:Int)-1=(j-1:Nat):=by omega
           simp -implicitDefEqProofs (disch:=first|exact dsc|fail)[-A36,-A3w,-A4k,-A4f,-A3z,-A4b,-A3h,-A12,-A2l,-A2h,-A2g,-A2f,-A2i,wrap_i64,A0n,A4h,hjb,hj1,hS3.in_.idx,hS3.in_.get];refine A6z ?_;by_cases hlt:gt ws j<gt ws (j-1)
           ·simp -implicitDefEqProofs (disch:=first|exact dsc|fail)[-A36,-A3w,-A4k,-A4f,-A3z,-A4h,-A3h,-A12,-A2l,-A2h,-A2g,-A2f,-A2i,wrap_i64,A4b,hlt,hj1,hS3.in_.idx,hS3.in_.get];refine A0x hS3 hjl hj1l rfl rfl A1e (by simp) (by omega) fun S4 w1 w2 w3=>?_
            simp -implicitDefEqProofs (disch:=omega) [wrap_i64,A3z];have:=ihm3 (j+1) (by omega) (by omega) S4 _ w1 (hc3.trans w2 (fun b hb=>.inl hb)) (hsw3.swap (by omega) (by omega) (by omega) (by omega)) (fun p q p1 p2 p3=>by
             rw[A20 hjl hj1l,A20 hjl hj1l,if_neg (by omega),if_neg (by omega),if_neg (by omega),if_neg (by omega)]
             exact hsr3 p q p1 p2 p3)
            simpa using this
           ·simp -implicitDefEqProofs (disch:=first|exact dsc|fail)[-A36,-A3w,-A4k,-A4f,-A3z,-A4b,-A4h,-A3h,-A12,-A2l,-A2h,-A2g,-A2f,-A2i,hlt];exact fin S3 ws _ hS3 hc3 hsw3 hsr3
         have:=k3 (b-(i+1)) (i+1) (by omega) (by omega) S2 zs hS2 hc2 hsw2 hsr2
         simpa using this
        ·simp -implicitDefEqProofs (disch:=first|exact dsc|fail)[-A36,-A3w,-A4k,-A4f,-A3z,-A4b,-A4h,-A3h,-A2l,-A2h,-A2g,-A2f,-A2i,wrap_i64,A12,h2];exact fin S2 zs u hS2 hc2 hsw2 hsr2
       by_cases h2i:(2:Int)<=(i:Int)-a
       ·simp -implicitDefEqProofs (disch:=first|exact dsc|fail)[-A36,-A3w,-A4k,-A4f,-A3z,-A4b,-A4h,-A3h,-A12,-A2l,-A2h,-A2g,-A2f,-A2i,wrap_i64,h2i,hi1];refine C9l fun I2 hI2=>?_;have k2:∀m j:Nat,j=a+m->j<i->∀S2 zs,(intE .i64).Own S2 v ρ zs->Chg s S2 (Row ρ)->Sw a b xs zs->(∀p q,a<=p->p<q->q<i->p≠j->q≠j->gt zs p<=gt zs q)->(∀q,j<q->q<i->gt zs j<=gt zs q)->
          I2 v (.int .i64 a) (.int .i64 b) (.int .i64 i) (.int .i64 n) (.int .i64 j) S2:=by
         intro m;induction m with
         | zero=>
          intro j hj hji S2 zs hS2 hc2 hsw2 h1 h2;have hja:j=a:=by omega
          subst hja;have hsr2:Srt zs j i:=fun p q p1 p2 p3=>by
           by_cases e:p=j
           ·subst e;exact h2 q p2 p3
           ·exact h1 p q p1 p2 p3 e (by omega)
          refine hI2 _ _ _ _ _ _ _ ?_;have hl2:=hsw2.length;by_cases h0:j=0
          ·subst h0
           try simp -implicitDefEqProofs (disch:=first|exact dsc|fail)[-A36,-A3w,-A4k,-A4f,-A3z,-A4b,-A4h,-A3h,-A12,-A2l,-A2h,-A2g,-A2f,-A2i]
           exact tail S2 zs _ hS2 hc2 hsw2 hsr2
          ·have h1j:(1:Int)<=j:=by omega
           have hjl:j<zs.length:=by omega
           have hj1l:j-1<zs.length:=by omega
           have hj1:(j:Int)-1=(j-1:Nat):=by omega
           simp -implicitDefEqProofs (disch:=first|exact dsc|fail)[-A36,-A3w,-A4k,-A3z,-A4b,-A4h,-A3h,-A12,-A2l,-A2h,-A2g,-A2f,-A2i,wrap_i64,A0n,A4f,h1j,hj1,hS2.in_.idx,hS2.in_.get];refine A6z ?_;have hnl:¬gt zs j<gt zs (j-1):=by
            have:=((hpre.sw hsw2 hb).resolve_left h0) j (Nat.le_refl _) hab;omega
           simp -implicitDefEqProofs (disch:=first|exact dsc|fail)[-A36,-A3w,-A4k,-A4f,-A3z,-A4b,-A4h,-A3h,-A12,-A2l,-A2h,-A2g,-A2f,-A2i,hnl];exact tail S2 zs _ hS2 hc2 hsw2 hsr2
         | succ m ihm2=>
          intro j hj hji S2 zs hS2 hc2 hsw2 h1 h2;refine hI2 _ _ _ _ _ _ _ ?_;have hl2:=hsw2.length;have h1j:(1:Int)<=j:=by omega
          have hjl:j<zs.length:=by omega
          have hj1l:j-1<zs.length:=by omega
          have hj1:(j:Int)-1=(j-1:Nat):=by omega
          simp -implicitDefEqProofs (disch:=first|exact dsc|fail)[-A36,-A3w,-A4k,-A3z,-A4b,-A4h,-A3h,-A12,-A2l,-A2h,-A2g,-A2f,-A2i,wrap_i64,A0n,A4f,h1j,hj1,hS2.in_.idx,hS2.in_.get];refine A6z ?_;by_cases hlt:gt zs j<gt zs (j-1)
          ·simp -implicitDefEqProofs (disch:=first|exact dsc|fail)[-A36,-A3w,-A4f,-A3z,-A4b,-A4h,-A3h,-A12,-A2l,-A2h,-A2g,-A2f,-A2i,wrap_i64,A4k,hlt,hj1,hS2.in_.idx,hS2.in_.get];refine A0x hS2 hjl hj1l rfl rfl A1e (by simp) (by omega) fun S4 w1 w2 w3=>?_
           simp -implicitDefEqProofs (disch:=omega) [wrap_i64,A3w,hj1];have hg2:∀k,gt (swp zs j (j-1)) k=if k=j-1 then gt zs j else if k=j then gt zs (j-1)else gt zs k:=fun k=>A20 hjl hj1l
           refine ihm2 (j-1) (by omega) (by omega) S4 _ w1 (hc2.trans w2 (fun b hb=>.inl hb)) (hsw2.swap (by omega) (by omega) (by omega) (by omega)) (fun p q p1 p2 p3 p4 p5=>?_) (fun q q1 q2=>?_)
           ·rw[hg2 p,hg2 q,if_neg p4,if_neg p5];by_cases hpj:p=j
            ·rw[if_pos hpj,if_neg (by omega)];exact h1 (j-1) q (by omega) (by omega) p3 (by omega) (by omega)
            ·rw[if_neg hpj];by_cases hqj:q=j
             ·rw[if_pos hqj];exact h1 p (j-1) p1 (by omega) (by omega) (by omega) (by omega)
             ·rw[if_neg hqj];exact h1 p q p1 p2 p3 hpj hqj
           ·rw[hg2 (j-1),if_pos rfl,hg2 q,if_neg (by omega)]
            by_cases hqj:q=j
            ·rw[if_pos hqj];omega
            ·rw[if_neg hqj];exact h2 q (by omega) q2
          ·simp -implicitDefEqProofs (disch:=first|exact dsc|fail)[-A36,-A3w,-A4k,-A4f,-A3z,-A4b,-A4h,-A3h,-A12,-A2l,-A2h,-A2g,-A2f,-A2i,hlt];refine tail S2 zs _ hS2 hc2 hsw2 (fun p q g1 g2 g3=>?_);by_cases hp:p=j
           ·subst hp;exact h2 q g2 g3
           ·by_cases hq:q=j
            ·subst hq;by_cases hp1:p=q-1
             ·subst hp1;omega
             ·have:=h1 p (q-1) g1 (by omega) (by omega) (by omega) (by omega);omega
            ·exact h1 p q g1 g2 g3 hp hq
        exact k2 (i-1-a) (i-1) (by omega) (by omega) S1 _ q1 hc1 hsw1 (fun p q p1 p2 p3 p4 p5=>by
         rw[hg,hg,if_neg p4,if_neg p5,if_neg (by omega),if_neg (by omega)];exact hsr p q p1 p2 p3) (fun q q1 q2=>by omega)
       ·simp -implicitDefEqProofs (disch:=first|exact dsc|fail)[-A36,-A3w,-A4k,-A4f,-A3z,-A4b,-A4h,-A3h,-A12,-A2l,-A2h,-A2g,-A2f,-A2i,wrap_i64,h2i];exact tail S1 _ _ q1 hc1 hsw1 (fun p q p1 p2 p3=>by omega)
     ·try simp -implicitDefEqProofs (disch:=first|exact dsc|fail)[hlt]
      have:=ihm (i+1) (by omega) (by omega) (fun p q p1 p2 p3=>by
       by_cases hq:q=i
       ·subst hq;by_cases hp:p=q-1
        ·subst hp;omega
        ·have:=hsr p (q-1) p1 (by omega) (by omega);omega
       ·exact hsr p q p1 p2 (by omega))
      simpa using this
   exact k1 (b-i) i (by omega) hai hsr
 have:=key 5 0 rfl (a+1) s xs (.bool false) hv ⟨Nat.le_refl _,fun _ _=>rfl⟩ .refl (by omega) (by omega) (fun p q p1 p2 p3=>by omega)
 simpa using this
theorem pdq_i{v:Value}{ρ:Option Nat}:∀(N:Nat) {xs:List Int} {a b:Nat} {lim:Int} {Q:Post} {s:St},b-a<=N->(intE .i64).Own s v ρ xs->xs.length<16000000->a<=b->b<=xs.length->Pre xs a b->-1000000000+b-a<=lim->lim<=1000->
  (∀S ys,(intE .i64).Own S v ρ ys->Chg s S (Row ρ)->Sw a b xs ys->Srt ys a b->Q (.tuple #[]) S)->CC X 148 [v,.int .i64 a,.int .i64 b,.int .i64 lim] Q s:=by
 intro N;induction N using Nat.strongRecOn with
 | _ N IH=>
  intro xs a0 b0 lim0 Q s hN hv hlen hab hb hpre hlim0 hlim1 hq;refine F1b rfl ?_
  try simp -implicitDefEqProofs (disch:=first|exact dsc|fail)[]
  refine C85 fun I hI=>?_;have key:∀n a b:Nat,b-a<=n->b-a<=N->a0<=a->a<=b->b<=b0->∀S ys (lim:Int) (wb wp:Bool),(intE .i64).Own S v ρ ys->Chg s S (Row ρ)->Sw a0 b0 xs ys->Out ys a0 b0 a b->Pre ys a b->-1000000000+b-a<=lim->lim<=1000->
    I v (.int .i64 a) (.int .i64 b) (.int .i64 lim) (.bool wb) (.bool wp) S:=by
   intro n;induction n using Nat.strongRecOn with
   | _ n ih=>
    intro a b hn hN' ha0 hab hbb S ys lim wb wp hS hc hsw hout hpr hl0 hl1;refine hI _ _ _ _ _ _ _ ?_;have hl:=hsw.length;have hby:b<=ys.length:=by omega
    have done:∀S2 zs,(intE .i64).Own S2 v ρ zs->Chg S S2 (Row ρ)->Sw a b ys zs->Srt zs a b->kEnd Q s (some (.tuple #[])) S2:=fun S2 zs h1 h2 h3 h4=>
     A0a (hq S2 zs h1 (hc.trans h2 (fun b hb=>.inl hb)) (hsw.trans (h3.mono ha0 hbb)) ((hout.sw h3 ha0 hbb hby).srt h4))
    by_cases h12:(b:Int)-a<=12
    ·try simp -implicitDefEqProofs (disch:=first|exact dsc|fail)[h12]
     refine D28 hS (by omega) hab hby fun S2 zs h1 h2 h3 h4=>?_
     try simp -implicitDefEqProofs (disch:=first|exact dsc|fail)[]
     exact done S2 zs h1 h2 h3 h4
    by_cases hlz:lim=0
    ·try simp -implicitDefEqProofs (disch:=first|exact dsc|fail)[-A1y,-A1t,-A1v,-A1u,-A15,-A13,h12,hlz]
     simp -implicitDefEqProofs (disch:=first|exact dsc|fail)[-A1y,-A1t,-A1v,-A1u,-A15,A0n,A13];refine C76 hS (by omega) (by omega) hby fun S2 zs h1 h2 h3 h4=>?_
     try simp -implicitDefEqProofs (disch:=first|exact dsc|fail)[]
     exact done S2 zs h1 h2 h3 h4
    have parted:∀S2 zs (lim2:Int) (p:Nat) (wb wp:Bool),(intE .i64).Own S2 v ρ zs->Chg S S2 (Row ρ)->Sw a b ys zs->a<=p->p<b->-1000000000+b-a-1<=lim2->lim2<=1000->
      A1t (CC X) (B3f (CC X) Q s) I v (.int .i64 a) (.int .i64 b) (.int .i64 lim2) (.bool wb) (.bool wp) (.int .i64 ((b:Int)-a)) (.int .i64 p) S2:=by
     intro S2 zs lim2 p wb wp hS2 hc2 hsw2 hp1 hp2 hq1 hq2;have hlz:=hsw2.length;have hpr2:=hpr.sw hsw2 hby;have hout2:=hout.sw hsw2 ha0 hbb hby;have hbz:b<=zs.length:=by omega
     have hc':=hc.trans hc2 (fun b hb=>Or.inl hb);have hsw':=hsw.trans (hsw2.mono ha0 hbb);have two:A1y (CC X) (B3f (CC X) Q s) I v (.int .i64 a) (.int .i64 b) (.int .i64 lim2) (.int .i64 ((b:Int)-a)) (.int .i64 p) S2:=by
      simp -implicitDefEqProofs (disch:=first|exact dsc|fail)[-A1t,-A1v,-A1u,-A15,-A13,A0n,A1y];refine G88 hS2 (by omega) hp1 hp2 hbz fun S3 ws m al w1 w2 w3 w4 w5 w6 w7=>?_
      have hlw:=w3.length;have hpr3:=hpr2.sw w3 hbz;have hout3:=hout2.sw w3 ha0 hbb hbz;have hc3:=hc'.trans w2 (fun b hb=>Or.inl hb);have hsw3:=hsw'.trans (w3.mono ha0 hbb);by_cases hlr:(m:Int)-a<(b:Int)-m
      ·simp -implicitDefEqProofs (disch:=first|exact dsc|fail)[-A1y,-A1t,-A1v,-A1u,-A15,-A13,A0n,wrap_i64,B35,Int.tdiv_eq_ediv_of_nonneg,hlr];refine IH (m-a) (by omega) (Nat.le_refl _) w1 (by omega) w4 (by omega) ?_ (by omega) (by omega) fun S4 us z1 z2 z3 z4=>?_
       ·rcases hpr3 with h|h
        ·exact .inl h
        ·exact .inr (fun k k1 k2=>h k k1 (by omega))
       try simp -implicitDefEqProofs (disch:=first|exact dsc|fail)[-A1y,-A1t,-A1v,-A1u,-A15,-A13,wrap_i64]
       have hlu:=z3.length;have:=ih (n-1) (by omega) (m+1) b (by omega) (by omega) (by omega) (by omega) hbb S4 us lim2 (decide (((b:Int)-a)/8<=(m:Int)-a)) al z1 (hc3.trans z2 (fun b hb=>.inl hb)) (hsw3.trans (z3.mono ha0 (by omega))) (hout3.left ha0 hbb (by omega) w4 w5 w6 w7 z3 z4)
        (.inr (fun k k1 k2=>by rw[z3.out (by omega) (k:=m+1-1) (by omega),z3.out (by omega) (k:=k) (by omega)];exact w7 k (by omega) k2)) (by omega) hq2
       simpa using this
      ·simp -implicitDefEqProofs (disch:=first|exact dsc|fail)[-A1y,-A1t,-A1v,-A1u,-A15,-A13,A0n,wrap_i64,B35,Int.tdiv_eq_ediv_of_nonneg,hlr];have hrec:=IH (b-(m+1)) (by omega) (a:=m+1) (b:=b) (lim:=lim2) (Q:=fun _ S4=>I v (.int .i64 a) (.int .i64 m) (.int .i64 lim2) (.bool (decide (((b:Int)-a)/8<=(b:Int)-m))) (.bool al) S4) (Nat.le_refl _) w1 (by omega) (by omega) (by omega)
        (.inr (fun k k1 k2=>w7 k (by omega) k2)) (by omega) hq2 (fun S4 us z1 z2 z3 z4=>by
         have hlu:=z3.length;have hpr4:Pre us a m:=by
          rcases hpr3 with h|h
          ·exact .inl h
          ·by_cases h0:a=0
           ·exact .inl h0
           ·exact .inr (fun k k1 k2=>by rw[z3.out (by omega) (k:=a-1) (by omega),z3.out (by omega) (k:=k) (by omega)];exact h k k1 (by omega))
         exact ih (n-1) (by omega) a m (by omega) (by omega) ha0 w4 (by omega) S4 us lim2 _ al z1 (hc3.trans z2 (fun b hb=>.inl hb)) (hsw3.trans (z3.mono (by omega) hbb)) (hout3.right ha0 hbb (by omega) w4 w5 w6 w7 z3 z4) hpr4 (by omega) hq2)
       have e1:((m+1:Nat):Int)=m+1:=by omega
       rw[e1]at hrec;refine A6p hrec fun _ S4 h4=>?_;exact h4
     have hzI:=hS2.in_;by_cases ha:0<a
     ·have ha':(0:Int)<a:=by omega
      have ha1:(a:Int)-1=(a-1:Nat):=by omega
      have hal:a-1<zs.length:=by omega
      have hpl:p<zs.length:=by omega
      simp -implicitDefEqProofs (disch:=first|exact dsc|fail)[-A1y,-A1v,-A1u,-A15,-A13,A0n,wrap_i64,A1t,ha,ha',ha1,hzI.idx,hzI.get];refine A6z ?_;by_cases hlt:gt zs (a-1)<gt zs p
      ·try simp -implicitDefEqProofs (disch:=first|exact dsc|fail)[-A1y,-A1t,-A1v,-A1u,-A15,-A13,hlt]
       exact two
      ·simp -implicitDefEqProofs (disch:=first|exact dsc|fail)[-A1y,-A1t,-A1v,-A1u,-A15,-A13,A0n,hlt];refine E4n hS2 (by omega) hp1 hp2 hbz fun S3 ws m w1 w2 w3 w4 w5 w6 w7=>?_
       have hlw:=w3.length;have hpr3:=(hpr2.sw w3 hbz).resolve_left (by omega)
       have hout3:=hout2.sw w3 ha0 hbb hbz;have hge:∀k,a<=k->k<b->gt zs p<=gt ws k:=fun k k1 k2=>by
        have:=hpr3 k k1 k2;rw[w3.out hbz (k:=a-1) (by omega)]at this
        omega
       refine ih (n-1) (by omega) m b (by omega) (by omega) (by omega) w5 hbb S3 ws lim2 _ _ w1 (hc'.trans w2 (fun b hb=>.inl hb)) (hsw'.trans (w3.mono ha0 hbb)) (fun i j g1 g2 g3 g4=>?_) (.inr (fun k k1 k2=>?_)) (by omega) hq2
       ·by_cases hij:a<=i/\j<b
        ·have hi:=w6 i hij.1 (by omega)
         have hj:=hge j (by omega) hij.2
         omega
        ·exact hout3 i j g1 g2 g3 hij
       ·have h1:=w6 (m-1) (by omega) (by omega)
        have h2:=w7 k k1 k2;omega
     ·have ha':¬(0:Int)<a:=by omega
      simp -implicitDefEqProofs (disch:=first|exact dsc|fail)[-A1y,-A1v,-A1u,-A15,-A13,wrap_i64,A1t,ha,ha'];exact two
    have chosen:∀S2 zs (lim2:Int) (p:Nat) (h:Int) (wb wp:Bool),(intE .i64).Own S2 v ρ zs->Chg S S2 (Row ρ)->Sw a b ys zs->a<=p->p<b->-1000000000+b-a-1<=lim2->lim2<=1000->
      A1v (CC X) (B3f (CC X) Q s) I v (.int .i64 a) (.int .i64 b) (.int .i64 lim2) (.bool wb) (.bool wp) (.int .i64 ((b:Int)-a)) (.int .i64 p) (.int .i64 h) S2:=by
     intro S2 zs lim2 p h wb wp hS2 hc2 hsw2 hp1 hp2 hq1 hq2;have hlz:=hsw2.length;have hc':=hc.trans hc2 (fun b hb=>Or.inl hb);by_cases hall:(wb&&wp&&decide (h=1))=true
     ·simp only[Bool.and_eq_true,decide_eq_true_eq]at hall;obtain⟨⟨rfl,rfl⟩,rfl⟩:=hall;simp -implicitDefEqProofs (disch:=first|exact dsc|fail)[-A1y,-A1t,-A1u,-A15,-A13,A0n,A1v];refine D2e hS2 (by omega) (by omega) (by omega) (hpr.sw hsw2 hby) fun S3 ws r w1 w2 w3 w4=>?_
      cases r with
      | true=>
       simp -implicitDefEqProofs (disch:=first|exact dsc|fail)[-A1y,-A1t,-A1v,-A1u,-A15,-A13];exact done S3 ws w1 (hc2.trans w2 (fun b hb=>.inl hb)) (hsw2.trans w3) (w4 rfl)
      | false=>
       try simp -implicitDefEqProofs (disch:=first|exact dsc|fail)[-A1y,-A1t,-A1v,-A1u,-A15,-A13]
       exact parted S3 ws lim2 p true true w1 (hc2.trans w2 (fun b hb=>.inl hb)) (hsw2.trans w3) hp1 hp2 hq1 hq2
     ·have:=parted S2 zs lim2 p wb wp hS2 hc2 hsw2 hp1 hp2 hq1 hq2;cases wb<;>cases wp<;>simp at hall<;>simp -implicitDefEqProofs (disch:=first|exact dsc|fail)[-A1y,-A1t,-A1u,-A15,-A13,A1v,hall]<;>exact this
    have pick:∀S2 zs (lim2:Int) (wb wp:Bool),(intE .i64).Own S2 v ρ zs->Chg S S2 (Row ρ)->Sw a b ys zs->-1000000000+b-a-1<=lim2->lim2<=1000->
      A1u (CC X) (B3f (CC X) Q s) I v (.int .i64 a) (.int .i64 b) (.int .i64 lim2) (.bool wb) (.bool wp) (.int .i64 ((b:Int)-a)) S2:=by
     intro S2 zs lim2 wb wp hS2 hc2 hsw2 hq1 hq2;have hlz:=hsw2.length;simp -implicitDefEqProofs (disch:=first|exact dsc|fail)[-A1y,-A1t,-A1v,-A15,-A13,A0n,A1u];refine F7x hS2.in_ (by omega) (by omega) (by omega) fun p h p1 p2=>?_
     by_cases h2:h=2
     ·subst h2;simp -implicitDefEqProofs (disch:=first|exact dsc|fail)[-A1y,-A1t,-A1v,-A1u,-A15,-A13,A0n];refine D7f hS2 (by omega) (by omega) (by omega) fun S3 ws w1 w2 w3=>?_
      have e1:(b:Int)-1-((p:Int)-a)=(b-1-(p-a):Nat):=by omega
      try simp -implicitDefEqProofs (disch:=first|exact dsc|fail)[-A1y,-A1t,-A1v,-A1u,-A15,-A13,wrap_i64]
      rw[e1];exact chosen S3 ws lim2 _ 1 wb wp w1 (hc2.trans w2 (fun b hb=>.inl hb)) (hsw2.trans w3) (by omega) (by omega) hq1 hq2
     ·try simp -implicitDefEqProofs (disch:=first|exact dsc|fail)[-A1y,-A1t,-A1v,-A1u,-A15,-A13,h2]
      exact chosen S2 zs lim2 p h wb wp hS2 hc2 hsw2 p1 p2 hq1 hq2
    try simp -implicitDefEqProofs (disch:=first|exact dsc|fail)[-A1y,-A1t,-A1v,-A1u,-A15,-A13,h12]
    simp -implicitDefEqProofs (disch:=first|exact dsc|fail)[-A1y,-A1t,-A1v,-A1u,A13,A15,hlz,A0n];cases wb with
    | true=>
     simp -implicitDefEqProofs (disch:=first|exact dsc|fail)[-A1y,-A1t,-A1v,-A1u,-A15,-A13];exact pick S ys lim true wp hS ⟨Nat.le_refl _,fun _ _=>rfl⟩ .refl (by omega) hl1
    | false=>
     simp -implicitDefEqProofs (disch:=first|exact dsc|fail)[-A1y,-A1t,-A1v,-A1u,-A15,-A13];refine C94 hS (by omega) (by omega) hby fun S2 zs h1 h2 h3=>?_
     simp -implicitDefEqProofs (disch:=first|exact dsc|fail)[-A1y,-A1t,-A1v,-A1u,-A15,-A13,wrap_i64];exact pick S2 zs (lim-1) false wp h1 h2 h3 (by omega) (by omega)
  exact key (b0-a0) a0 b0 (Nat.le_refl _) hN (Nat.le_refl _) hab (Nat.le_refl _) s xs lim0 true true hv ⟨Nat.le_refl _,fun _ _=>rfl⟩ .refl (fun i j h1 h2 h3 h4=>by omega) hpre hlim0 hlim1
theorem E6y{v:Value}{ρ:Option Nat}{xs:List Int}{Q:Post}{s:St}(hv:(intE .i64).Own s v ρ xs)(hlen:xs.length<16000000)
  (hq:∀S ys,(intE .i64).Own S v ρ ys->Chg s S (Row ρ)->ys.Perm xs->ys.Pairwise (·<=·)->Q (.tuple #[]) S):CC X 117 [v] Q s:=by
 refine F5f rfl ?_
 try simp -implicitDefEqProofs (disch:=first|exact dsc|fail)[hv.in_.len A00]
 refine B97 (by omega) fun k hk _ _=>?_
 try simp -implicitDefEqProofs (disch:=first|exact dsc|fail)[]
 refine pdq_i (a:=0) xs.length (by omega) hv hlen (Nat.zero_le _) (Nat.le_refl _) (.inl rfl) (by omega) (by omega) fun S ys h1 h2 h3 h4=>?_
 try simp -implicitDefEqProofs (disch:=first|exact dsc|fail)[]
 have hl:=h3.length;exact A0a (hq S ys h1 h2 (h3.perm (Nat.le_refl _)) (Srt.list (by rw[hl];exact h4)))
end Go.Zz
