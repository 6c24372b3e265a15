import Derived.Test.YtnghaapdoanabaaGreatDoorWR3
set_option linter.all false
set_option maxRecDepth 20000
set_option linter.all false
namespace Go.Zz
open Go
variable {X : Y0}
structure StepM where
 kind:Int
 br:Int
 vol:Int
 blk:Int
 a:Int
 b:Int
 d:Int
def A3x:Enc StepM 7:=⟨fun x=>[.int .i64 x.kind,.int .i64 x.br,.int .i64 x.vol,.int .i64 x.blk,.int .u64 x.a,.int .u64 x.b,.int .i64 x.d],fun _=>rfl⟩
section
variable {s S : St} {o o' : Nat → Nat} {d : Nat → Prop} {c m t' t f b mc : Nat} {sl : Value} {M : A02} {Q : Post}
theorem B11{v:Value}{xs:List Int}{k:Int}(hv:(intE .u64).In s v xs)(hl:xs.length<=1000000)(hk:0<=k)(hq:∀n,Q (.int .u64 n) s):CC X 55 [v,.int .u64 k] Q s:=by
 refine G8a rfl ?_;have hln:=hv.len (P:=P) (s':=s) A0c;by_cases h0:xs.length=0
 ·try simp -implicitDefEqProofs (disch:=first|exact dsc|fail)[hln,h0]
  exact hq _
 ·have h1:k%xs.length=((k%xs.length).toNat:Int):=by
   rw[Int.toNat_of_nonneg (Int.emod_nonneg _ (by omega))]
  have h2:(k%xs.length).toNat<xs.length:=by have:=Int.emod_lt_of_pos k (b:=xs.length) (by omega);omega
  generalize hj:(k%xs.length).toNat=j at *;have hw:IntKind.u64.wrap (xs.length:Int)=xs.length:=A65 (by omega) (by omega)
  try simp -implicitDefEqProofs (disch:=first|exact dsc|fail)[hln,h0,hw]
  rw[h1]
  try simp -implicitDefEqProofs (disch:=first|exact dsc|fail)[hv.idx,hv.one,h2]
  exact hq _
theorem C8m:mslN (some (5,1,1,[.int .u8 0])) (.int .i64 32) (.int .i64 32)=some (.cells ([.int .u8 0,.int .u8 0,.int .u8 0,.int .u8 0,.int .u8 0,.int .u8 0,.int .u8 0,.int .u8 0,.int .u8 0,.int .u8 0,.int .u8 0,.int .u8 0,.int .u8 0,.int .u8 0,.int .u8 0,.int .u8 0,.int .u8 0,.int .u8 0,.int .u8 0,.int .u8 0,.int .u8 0,.int .u8 0,.int .u8 0,.int .u8 0,.int .u8 0,.int .u8 0,.int .u8 0,.int .u8 0,.int .u8 0,.int .u8 0,.int .u8 0,.int .u8 0]) false,.slc 32 32):=by kernel_rfl
theorem E6t:bslN (some (5,1,1,[.int .u8 0])) 3 #[(0,.int .u8 1),(1,.int .u8 1),(2,.int .u8 7)]=some (.cells [.int .u8 1,.int .u8 1,.int .u8 7] true,.slc 3 3):=by kernel_rfl
def H0h(x:StepM):Value:=.agg #[.int .i64 x.kind,.int .i64 x.br,.int .i64 x.vol,.int .i64 x.blk,.int .u64 x.a,.int .u64 x.b,.int .i64 x.d]
theorem C4l{x:StepM}(h:A01 s o c m t' t f b mc sl M)(ha:0<=x.a)(hq:∀k v S o',Fd s S o o' (fun _=>False)->Im (intE .u8) S o' v k.body->k.num=M.top+1->k.min=M.now->Q (A1r k v) S):CC X 25 [.pointer (some ⟨m,0,none⟩),H0h x] Q s:=by
 have hb:=h.heap;have hlt:=h.blk.lt;have hnow:=h.now;have htop:=h.top;have hw:IntKind.u64.wrap (M.top+1)=M.top+1:=A65 (by omega) (by omega)
 unfold H0h;refine G4t rfl ?_
 try simp -implicitDefEqProofs (disch:=first|exact dsc|fail)[-A1m]
 refine A9o (h.old (by repeat (first|exact Old.refl _|apply Old.alloc))) ?_
 try simp -implicitDefEqProofs (disch:=first|exact dsc|fail)[-A1m,hw]
 refine A06 (h.old (by repeat (first|exact Old.refl _|apply Old.alloc))) ?_
 try simp -implicitDefEqProofs (disch:=first|exact dsc|fail)[-A1m]
 generalize hS:((s.alloc (.cells [.int .i64 x.kind,.int .i64 x.br,.int .i64 x.vol,.int .i64 x.blk,.int .u64 x.a,.int .u64 x.b,.int .i64 x.d] false)).alloc (.cells [.int .i64 0,.int .u64 0,.int .i64 0,.int .i64 0,.int .i64 0,.int .i64 0,.int .u64 0,.int .i64 0,.int .i64 0,.int .i64 0,.slice none 0 0] false)).alloc (.cells [.int .i64 0,.int .u64 (M.top+1),.int .i64 M.now,.int .i64 0,.int .i64 0,.int .i64 0,.int .u64 0,.int .i64 0,.int .i64 0,.int .i64 0,.slice none 0 0] false)=S;have oS:Old s S:=by subst hS;exact(((Old.refl s).alloc).alloc).alloc
 have nS:S.next=s.next+3:=by subst hS;simp
 have b0:S.heap s.next=some (.cells [.int .i64 x.kind,.int .i64 x.br,.int .i64 x.vol,.int .i64 x.blk,.int .u64 x.a,.int .u64 x.b,.int .i64 x.d] false):=by subst hS;simp -implicitDefEqProofs (disch:=first|exact dsc|fail)[]
 have b1:S.heap (s.next+1)=some (.cells [.int .i64 0,.int .u64 0,.int .i64 0,.int .i64 0,.int .i64 0,.int .i64 0,.int .u64 0,.int .i64 0,.int .i64 0,.int .i64 0,.slice none 0 0] false):=by subst hS;simp -implicitDefEqProofs (disch:=first|exact dsc|fail)[]
 have b2:S.heap (s.next+1+1)=some (.cells [.int .i64 0,.int .u64 (M.top+1),.int .i64 M.now,.int .i64 0,.int .i64 0,.int .i64 0,.int .u64 0,.int .i64 0,.int .i64 0,.int .i64 0,.slice none 0 0] false):=by subst hS;simp -implicitDefEqProofs (disch:=first|exact dsc|fail)[]
 have F1:Fd s S o (tint o s.next 1) (fun _=>False):=oS.tint
 have c1:∀k,k<3->tint o s.next 1 (s.next+k)=1:=fun k _=>A0d (by omega)
 generalize tint o s.next 1=o1 at *
 have hS1:=h.fd F1 (fun _ h=>h.elim) id;have J:∀k v S' o',Fd S S' o1 o' (·=1)->S'.heap (s.next+1+1)=some (.cells (A1z k v) false)->S'.heap (s.next+1)=S.heap (s.next+1)->(∀b,b<s.next->S'.heap b=S.heap b)->Im (intE .u8) S' o' v k.body->k.num=M.top+1->k.min=M.now->A1m (CC X) Q s (.pointer (some ⟨s.next+1,0,none⟩)) (.pointer (some ⟨s.next+1+1,0,none⟩)) S':=by
  intro k v S' o' g1 g2 g3 g4 g5 g6 g7;rw[b1]at g3;unfold A1z at g2;have hd:=g5.1.data;have hle:=g1.chg.le
  try simp -implicitDefEqProofs (disch:=first|exact dsc|fail)[g2,g3,hd]
  have f6:∀y,Fd S' (S'.put (s.next+1) y) o' o' (·=1):=fun y=>⟨⟨by simp,fun {b} hb hn=>St.put_other (fun e=>hn (by rw[e];exact(g1.col (by omega)).trans (c1 1 (by omega))))⟩,fun _=>rfl⟩
  exact A0a (hq k v _ o' ⟨⟨by simp;omega,fun {b} hb hn=>(St.put_other (by omega)).trans ((g4 b hb).trans (oS.eq hb))⟩,fun {b} hb=>(g1.col (by omega)).trans (F1.col hb)⟩ (g5.fd (f6 _) (by omega)) g6 g7)
 have P1:∀(k:A1k) Sx ox,Fd S Sx o1 ox (fun _=>False)->k.num=M.top+1->k.min=M.now->k.body=[]->A1m (CC X) Q s (.pointer (some ⟨s.next+1,0,none⟩)) (.pointer (some ⟨s.next+1+1,0,none⟩)) (Sx.put (s.next+1+1) (.cells (A1z k (.slice none 0 0)) false)):=fun k Sx ox g h1 h2 h3=>by
  have hle:=g.chg.le;have f6:∀y,Fd Sx (Sx.put (s.next+1+1) y) ox ox (·=1):=fun y=>⟨⟨by simp,fun {b} hb hn=>St.put_other (fun e=>hn (by rw[e];exact(g.col (by omega)).trans (c1 2 (by omega))))⟩,fun _=>rfl⟩
  exact J k _ _ ox ((g.mono (fun _ h=>h.elim)).trans (f6 _)) St.put_self ((St.put_other (by omega)).trans (g.chg.eq (by omega) id)) (fun b hb=>(St.put_other (by omega)).trans (g.chg.eq (by omega) id)) (by rw[h3];exact .nil) h1 h2
 have P2:∀(k:A1k) Sx ox tl n v (vs:List Value),Fd S Sx o1 ox (fun _=>False)->k.num=M.top+1->k.min=M.now->vs=(intE .u8).row k.body->n=k.body.length->n<1000000->v=.slice (some ⟨Sx.next,0,none⟩) n n->A1m (CC X) Q s (.pointer (some ⟨s.next+1,0,none⟩)) (.pointer (some ⟨s.next+1+1,0,none⟩)) ((Sx.put (s.next+1+1) (.cells (A1z k v) false)).alloc (.cells vs tl)):=fun k Sx ox tl n v vs g h1 h2 h3 h4 h5 h6=>by
  have hle:=g.chg.le;have f6:∀y,Fd Sx (Sx.put (s.next+1+1) y) ox ox (·=1):=fun y=>⟨⟨by simp,fun {b} hb hn=>St.put_other (fun e=>hn (by rw[e];exact(g.col (by omega)).trans (c1 2 (by omega))))⟩,fun _=>rfl⟩
  have f7:∀y z,Fd (Sx.put (s.next+1+1) y) ((Sx.put (s.next+1+1) y).alloc z) ox (tint ox Sx.next 0) (·=1):=fun y z=>(Old.alloc (.refl _)).tint
  refine J k _ _ (tint ox Sx.next 0) (((g.mono (fun _ h=>h.elim)).trans (f6 _)).trans (f7 _ _)) ((St.alloc_old (by simp;omega)).trans St.put_self) ((St.alloc_old (by simp;omega)).trans ((St.put_other (by omega)).trans (g.chg.eq (by omega) id))) (fun b hb=>(St.alloc_old (by simp;omega)).trans ((St.put_other (by omega)).trans (g.chg.eq (by omega) id))) ?_ h1 h2
  subst h6;refine⟨Enc.In.made (b:=Sx.next) (tl:=tl) (by rw[St.alloc_at (by simp)]) (by simp) h3 h4 h5,fun _ a l c e=>?_⟩
  cases e;exact A0d (Nat.le_refl _)
 by_cases k0:x.kind=0
 ·try simp -implicitDefEqProofs (disch:=first|exact dsc|fail)[-A1m,k0,b0,b2,C8m]
  exact P2 ⟨1,M.top+1,M.now,x.br,x.vol,x.blk,0,0,0,0,IntKind.u8.wrap (M.top+1)::List.replicate 31 0⟩ S o1 _ 32 _ _ .refl rfl rfl rfl rfl (by omega) rfl
 ·by_cases k1:x.kind=1
  ·try simp -implicitDefEqProofs (disch:=first|exact dsc|fail)[-A1m,k1,b0,b2]
   refine A06 hS1 ?_
   try simp -implicitDefEqProofs (disch:=first|exact dsc|fail)[-A1m,b0]
   refine A7l hS1 fun v2 S2 xs k1 k2 _ _=>?_;have o2:=k1.old_;have hle2:=o2.le;have e0:=(o2.eq (b:=s.next) (by omega)).trans b0
   have e2:=(o2.eq (b:=s.next+1+1) (by omega)).trans b2
   try simp -implicitDefEqProofs (disch:=first|exact dsc|fail)[-A1m,e0]
   refine B11 k1.in_ k2 ha fun n=>?_
   try simp -implicitDefEqProofs (disch:=first|exact dsc|fail)[-A1m,e0,e2]
   exact P1 ⟨2,M.top+1,M.now,x.br,x.vol,x.blk,n,0,0,0,[]⟩ S2 _ o2.fd rfl rfl rfl
  ·by_cases k2:x.kind=2
   ·try simp -implicitDefEqProofs (disch:=first|exact dsc|fail)[-A1m,k2,b0,b2,E6t]
    refine A06 hS1 ?_
    try simp -implicitDefEqProofs (disch:=first|exact dsc|fail)[-A1m,b0]
    refine A7l hS1 fun v2 S2 xs k1 k2 _ _=>?_;have o2:=k1.old_;have hle2:=o2.le;have e0:=(o2.eq (b:=s.next) (by omega)).trans b0
    have e2:=(o2.eq (b:=s.next+1+1) (by omega)).trans b2
    try simp -implicitDefEqProofs (disch:=first|exact dsc|fail)[-A1m,e0]
    refine B11 k1.in_ k2 ha fun n=>?_
    try simp -implicitDefEqProofs (disch:=first|exact dsc|fail)[-A1m,e0,e2,E6t]
    exact P2 ⟨3,M.top+1,M.now,x.br,x.vol,x.blk,n,0,0,0,[1,1,7]⟩ S2 _ _ 3 _ _ o2.fd rfl rfl rfl rfl (by omega) rfl
   ·by_cases k4:x.kind=4
    ·try simp -implicitDefEqProofs (disch:=first|exact dsc|fail)[-A1m,k4,b0,b2]
     refine A06 hS1 ?_
     try simp -implicitDefEqProofs (disch:=first|exact dsc|fail)[-A1m,b0]
     refine A6h hS1 fun v2 S2 k1=>?_;have hpl:=B38 h (now:=M.now);have o2:=k1.old_;have hle2:=o2.le;have e0:=(o2.eq (b:=s.next) (by omega)).trans b0
     have e2:=(o2.eq (b:=s.next+1+1) (by omega)).trans b2
     try simp -implicitDefEqProofs (disch:=first|exact dsc|fail)[-A1m,e0]
     refine B11 k1.in_ (by omega) ha fun n=>?_
     try simp -implicitDefEqProofs (disch:=first|exact dsc|fail)[-A1m,e0,e2]
     exact P1 ⟨4,M.top+1,M.now,x.br,x.vol,0,n,0,0,0,[]⟩ S2 _ o2.fd rfl rfl rfl
    ·by_cases k5:x.kind=5
     ·try simp -implicitDefEqProofs (disch:=first|exact dsc|fail)[-A1m,k5,b0,b2]
      have hp:=P1 ⟨5,M.top+1,M.now,x.br,0,0,0,0,0,0,[]⟩ S _ .refl rfl rfl rfl;rw[<-hS,St.alloc_put_new (by simp),k5]at hp
      exact hp
     ·by_cases k6:x.kind=6
      ·try simp -implicitDefEqProofs (disch:=first|exact dsc|fail)[-A1m,k6,b0,b2]
       refine A06 hS1 ?_
       try simp -implicitDefEqProofs (disch:=first|exact dsc|fail)[-A1m,b0,b2]
       refine A06 hS1 ?_
       try simp -implicitDefEqProofs (disch:=first|exact dsc|fail)[-A1m,b0,b2]
       refine A06 hS1 ?_
       try simp -implicitDefEqProofs (disch:=first|exact dsc|fail)[-A1m,b0,b2]
       exact P1 ⟨6,M.top+1,M.now,0,0,0,M.top+1,_,_,_,[]⟩ S _ .refl rfl rfl rfl
      ·by_cases k7:x.kind=7
       ·try simp -implicitDefEqProofs (disch:=first|exact dsc|fail)[-A1m,k7,b0,b2]
        refine A8q hS1 fun v2 S2 xs k1 k2 _ _=>?_;have o2:=k1.old_;have hle2:=o2.le;have e0:=(o2.eq (b:=s.next) (by omega)).trans b0
        have e2:=(o2.eq (b:=s.next+1+1) (by omega)).trans b2
        try simp -implicitDefEqProofs (disch:=first|exact dsc|fail)[-A1m,e0]
        refine B11 k1.in_ (by omega) ha fun n=>?_
        try simp -implicitDefEqProofs (disch:=first|exact dsc|fail)[-A1m,e0,e2]
        exact P1 ⟨7,M.top+1,M.now,0,0,0,n,0,0,0,[]⟩ S2 _ o2.fd rfl rfl rfl
       ·by_cases k9:x.kind=9
        ·try simp -implicitDefEqProofs (disch:=first|exact dsc|fail)[-A1m,k9,b0,b2]
         have hp:=P1 ⟨8,M.top+1,M.now,0,0,0,0,0,0,0,[]⟩ S _ .refl rfl rfl rfl;rw[<-hS,St.alloc_put_new (by simp),k9]at hp
         exact hp
        ·try simp -implicitDefEqProofs (disch:=first|exact dsc|fail)[-A1m,k0,k1,k2,k4,k5,k6,k7,k9,b0,b2]
         exact J ⟨0,M.top+1,M.now,0,0,0,0,0,0,0,[]⟩ (.slice none 0 0) S o1 .refl b2 rfl (fun _ _=>rfl) .nil rfl rfl
end
end Go.Zz
set_option maxRecDepth 20000
set_option linter.all false
namespace Go.Zz
open Go
variable {X : Y0}
section
variable {s S : St} {o o' : Nat → Nat} {d : Nat → Prop} {c m t' t f b mc : Nat} {sl : Value} {M : A02} {Q : Post}
theorem C5q(h:A01 s o c m t' t f b mc sl M)(hq:∀n S o' M',Fd s S o o' (inC c)->A01 S o' c m t' t f b mc sl M'->Less M M'->Q (.int .i64 n) S):CC X 24 [.pointer (some ⟨m,0,none⟩),.bool true] Q s:=by
 have hb:=h.heap;have hlt:=h.blk.lt;have hpos:=h.pos;refine G5z rfl ?_
 try simp -implicitDefEqProofs (disch:=first|exact dsc|fail)[-A8s,-A9j,-A8k,-A9i,-A8o,-A89,-A8y,-A61,-A63,mapN]
 have F1:Fd s (s.alloc (.map [] [] 0)) o (tint o s.next (c+6)) (fun _=>False):=(Old.alloc (.refl _)).tint
 have hm1:MapR .u64 (fun _:Unit=>.bool true) (s.alloc (.map [] [] 0)) s.next []:=.new
 have c1:tint o s.next (c+6) s.next=c+6:=A0d (Nat.le_refl _)
 have n1:(s.alloc (.map [] [] 0)).next=s.next+1:=by simp
 generalize tint o s.next (c+6)=o1 at *
 generalize s.alloc (.map [] [] 0)=s1 at *;have h1:=h.fd F1 (fun _ h=>h.elim) id;refine A06 h1 ?_
 try simp -implicitDefEqProofs (disch:=first|exact dsc|fail)[-A8s,-A9j,-A8k,-A9i,-A8o,-A89,-A8y,-A61,-A63]
 refine A6h h1 fun v S2 k1=>?_;have F2:Fd s1 S2 o1 (tint o1 s1.next 0) (fun _=>False):=k1.old_.tint
 have hi2:=k1.im (o:=o1);have hm2:=hm1.old k1.old_;have c2:tint o1 s1.next 0 s.next=c+6:=(F2.col (by omega)).trans c1
 have hle2:=k1.old_.le;generalize tint o1 s1.next 0=o2 at *
 have h2:=h1.fd F2 (fun _ h=>h.elim) id;have hlen:=hi2.1.len (P:=P) A0c (s':=S2);have hpl:=B38 h (now:=M.now);generalize prom M M.now=xs at *
 try simp -implicitDefEqProofs (disch:=first|exact dsc|fail)[-A8s,-A9j,-A8k,-A9i,-A8o,-A89,-A8y,-A61,-A63,hlen]
 have FC:∀S3 o3 M3,Fd s S3 o o3 (inC c)->A01 S3 o3 c m t' t f b mc sl M3->Less M M3->B8k (CC X) Q s (.pointer (some ⟨m,0,none⟩)) (.bool true) S3:=by
  intro S3 o3 M3 F3 h3 g3
  try simp -implicitDefEqProofs (disch:=first|exact dsc|fail)[-A8s,-A9j,-A8k,-A9i,-A8o,-A89,-A8y,-A61,-A63]
  refine A8q h3 fun v S4 ns k1 k2 _ _=>?_;have f4:Fd S3 S4 o3 (tint o3 S3.next 0) (fun _=>False):=k1.old_.tint
  have hi:=k1.im (o:=o3);have hlen:=hi.1.len (P:=P) A0c (s':=S4);generalize tint o3 S3.next 0=o4 at *
  have h4:=h3.fd f4 (fun _ h=>h.elim) id
  try simp -implicitDefEqProofs (disch:=first|exact dsc|fail)[-A8s,-A9j,-A8k,-A9i,-A8o,-A89,-A8y,-A61,-A63,hlen]
  refine D82 fun I hI=>?_;refine up (n:=ns.length) (M:=fun i=>∀S o' M' (g:Nat),g<=i->Fd s S o o' (inC c)->A01 S o' c m t' t f b mc sl M'->Less M M'->Im (intE .u64) S o' v ns->I (.pointer (some ⟨m,0,none⟩)) (.bool true) (.int .i64 g) v (.int .i64 ns.length) (.int .i64 i) S) (fun i hi ih S o' M' g hg F hM hl hv=>?_) 0 (Nat.zero_le _) S4 o4 M3 0 (Nat.le_refl _) (F3.trans (f4.mono (fun _ h=>h.elim))) h4 g3 hi;refine hI _ _ _ _ _ _ _ ?_;by_cases hlt:i<ns.length
  ·try simp -implicitDefEqProofs (disch:=first|exact dsc|fail)[-A8s,-A9j,-A8k,-A9i,-A8o,-A89,-A8y,-A61,-A63,hlt]
   try simp -implicitDefEqProofs (disch:=first|exact dsc|fail)[hv.1.idx,hv.1.one]
   refine C5m hM fun e S5 o5 M5 f5 h5 g5=>?_;by_cases he:e=0
   ·try simp -implicitDefEqProofs (disch:=first|exact dsc|fail)[he]
    have:=ih hlt S5 o5 M5 (g+1) (by omega) (F.trans f5) h5 (hl.trans g5) (hv.fd f5 (by unfold inC;omega))
    simpa using this
   ·try simp -implicitDefEqProofs (disch:=first|exact dsc|fail)[he]
    exact ih hlt S5 o5 M5 g (by omega) (F.trans f5) h5 (hl.trans g5) (hv.fd f5 (by unfold inC;omega))
  ·try simp -implicitDefEqProofs (disch:=first|exact dsc|fail)[hlt]
   exact A0a (hq _ S o' M' F hM hl)
 have FB:∀S3 o3 l,Fd s S3 o o3 (fun _=>False)->A01 S3 o3 c m t' t f b mc sl M->SetR .u64 S3 s.next l->o3 s.next=c+6->B9v (CC X) Q s (.pointer (some ⟨m,0,none⟩)) (.bool true) (.map (some s.next)) S3:=by
  intro S3 o3 l F3 h3 g3 c3
  try simp -implicitDefEqProofs (disch:=first|exact dsc|fail)[-A8s,-A9j,-A8k,-A9i,-A8o,-A89,-A8y,-A61,-A63]
  refine A8q h3 fun v S4 ns k1 k2 _ _=>?_;have f4:Fd S3 S4 o3 (tint o3 S3.next 0) (fun _=>False):=k1.old_.tint
  have hi:=k1.im (o:=o3);have hlen:=hi.1.len (P:=P) A0c (s':=S4);have c4:tint o3 S3.next 0 s.next=c+6:=(f4.col g3.lt).trans c3
  generalize tint o3 S3.next 0=o4 at *
  have h4:=h3.fd f4 (fun _ h=>h.elim) id
  try simp -implicitDefEqProofs (disch:=first|exact dsc|fail)[-A8s,-A9j,-A8k,-A9i,-A8o,-A89,-A8y,-A61,-A63,hlen]
  refine D6u fun I hI=>?_;refine up (n:=ns.length) (M:=fun i=>∀S o' M',Fd s S o o' (inC c)->A01 S o' c m t' t f b mc sl M'->Less M M'->Im (intE .u64) S o' v ns->SetR .u64 S s.next l->o' s.next=c+6->I (.pointer (some ⟨m,0,none⟩)) (.bool true) (.map (some s.next)) v (.int .i64 ns.length) (.int .i64 i) S) (fun i hi ih S o' M' F hM hl hv hs hc=>?_) 0 (Nat.zero_le _) S4 o4 M ((F3.trans f4).mono (fun _ h=>h.elim)) h4 .refl hi (g3.old k1.old_) c4
  refine hI _ _ _ _ _ _ _ ?_;by_cases hlt:i<ns.length
  ·try simp -implicitDefEqProofs (disch:=first|exact dsc|fail)[-A8s,-A9j,-A8k,-A9i,-A8o,-A89,-A8y,-A61,-A63,hlt]
   try simp -implicitDefEqProofs (disch:=first|exact dsc|fail)[hv.1.idx,hv.1.one]
   refine(C7v hM).get ns[i] _ S (.refl _) fun v5 S5 hN=>?_;have hd:=hN.in_.data;generalize ((M'.C ns[i]).getD A7m)=kk at *;have o5:=hN.old_;have n5:=o5.le;have o6:Old S5 (S5.alloc (.cells (A1z kk v5) false)):=by simp
   have f6:Fd S (S5.alloc (.cells (A1z kk v5) false)) o' (tint o' S.next 0) (fun _=>False):=(o5.trans o6).tint
   have c6:tint o' S.next 0 s.next=c+6:=(f6.col hs.lt).trans hc
   generalize tint o' S.next 0=o6' at *
   have h6:=hM.fd f6 (fun _ h=>h.elim) id;have hs6:=hs.old (o5.trans o6);have hv6:=hv.fd f6 id;unfold A1r A1z at *;by_cases hk:kk.kind<=3
   ·have hlk:=hs.look0 (n:=ns[i]) (z:=.bool false);have hlk6:=hs6.look0 (n:=ns[i]) (z:=.bool false);cases hg:mget l ns[i]with
    | none=>
     rw[hg]at hlk hlk6
     try simp -implicitDefEqProofs (disch:=first|exact dsc|fail)[-A8s,-A9j,-A8k,-A9i,-A8o,-A89,-A8y,-A61,-A63,hd,hk,hlk,hlk6]
     generalize S5.alloc _=S6 at *;refine C13 h6 fun e S7 o7 f7 h7=>?_
     try simp -implicitDefEqProofs (disch:=first|exact dsc|fail)[]
     exact ih hlt S7 o7 _ (((F.trans (f6.mono (fun _ h=>h.elim)))).trans f7) h7 (hl.trans (.setT C6h)) (hv6.fd f7 (by unfold inC;omega)) (hs6.chg f7.chg (by rw[c6];unfold inC;omega)) ((f7.col hs6.lt).trans c6)
    | some u=>
     rw[hg]at hlk hlk6
     try simp -implicitDefEqProofs (disch:=first|exact dsc|fail)[hd,hk,hlk,hlk6]
     exact ih hlt _ o6' M' (F.trans (f6.mono (fun _ h=>h.elim))) h6 hl hv6 hs6 c6
   ·try simp -implicitDefEqProofs (disch:=first|exact dsc|fail)[hd,hk]
    exact ih hlt _ o6' M' (F.trans (f6.mono (fun _ h=>h.elim))) h6 hl hv6 hs6 c6
  ·try simp -implicitDefEqProofs (disch:=first|exact dsc|fail)[-B8k,hlt]
   exact FC S o' M' F hM hl
 refine D4p fun I hI=>?_;refine up (n:=xs.length) (M:=fun i=>∀S l,SetR .u64 S s.next l->Chg S2 S (·=s.next)->I (.pointer (some ⟨m,0,none⟩)) (.bool true) (.map (some s.next)) v (.int .i64 xs.length) (.int .i64 i) S) (fun i hi ih S l hs hch=>?_) 0 (Nat.zero_le _) S2 [] hm2 .refl
 refine hI _ _ _ _ _ _ _ ?_;have hle:=hch.le;have fS:Fd S2 S o2 o2 (·=c+6):=⟨hch.mono (fun b e=>by rw[e];exact c2),fun _=>rfl⟩
 have hv:=hi2.fd fS (by omega)
 by_cases hlt:i<xs.length
 ·try simp -implicitDefEqProofs (disch:=first|exact dsc|fail)[hlt,hv.1.idx,hv.1.one]
  refine hs.put (x:=()) rfl fun S4 m1 m2 m3=>?_
  try simp -implicitDefEqProofs (disch:=first|exact dsc|fail)[]
  exact ih hlt S4 _ m1 ⟨by omega,fun {b} hb hn=>(m3 hn).trans (hch.eq hb hn)⟩
 ·try simp -implicitDefEqProofs (disch:=first|exact dsc|fail)[-B9v,hlt]
  exact FB S o2 l ⟨⟨by omega,fun {b} hb hn=>(hch.eq (by omega) (by omega)).trans ((F1.trans F2).chg.eq hb hn)⟩,(F1.trans F2).col⟩ (h2.fd fS (fun k e=>by subst e;unfold inC;omega) (by omega)) hs c2
end
end Go.Zz
set_option maxRecDepth 20000
set_option linter.all false
namespace Go.Zz
open Go
structure InvN(M:A02)(N t:Int):Prop where
 idx:TOkT (fun x=>spOk x/\x.num<=N) M.X
 tab:∀x∈M.T,x.num<=N/\x.min<=t
 book:∀p∈M.L,p.min<=t/\p.until_<=1073741824
 sizes:M.vols=2/\M.blks=3
theorem Inv.n{M:A02}(h:Inv M){N t:Int}(hN:M.top<=N)(ht:M.now<=t):InvN M N t:=
 ⟨fun a e=>(h.idx a e).mono (fun x hx=>⟨hx.1,by have:=hx.2;omega⟩),fun x hx=>by have:=h.tab x hx;omega,fun p hp=>by have:=h.book p hp;omega,h.sizes⟩
theorem E29{T:List Item}{n m:Int}{x:Item}(h:x∈(tAdd T n m).2):x∈T\/x=⟨n,m,false⟩:=by
 unfold tAdd at h;split at h
 ·exact .inl h
 ·split at h
  ·exact .inl h
  ·simpa using h
theorem D2n{T:List Item}{n m:Int}(h:(tAdd T n m).1≠0):(tAdd T n m).2=T:=by
 unfold tAdd at h ⊢;split
 ·rfl
 ·split
  ·rfl
  ·rename_i h1 h2;rw[if_neg h1,if_neg h2]at h;exact absurd rfl h
theorem E2p{L:List PutM}{id a d u num min:Int}{p:PutM}(h:p∈(bAdd L id a d u num min).2):p∈L\/p=⟨id,a,d,u,num,min⟩/\u<=1073741824:=by
 unfold bAdd at h;split at h
 ·exact .inl h
 ·rename_i hn;have hu:u<=1073741824:=by
   simp[C1u,C0h]at hn;omega
  repeat' split at h
  all_goals first|exact .inl h|(rcases List.mem_append.1 h with h|h;exact .inl h;exact .inr ⟨by simpa using h,hu⟩)
theorem D5m{L:List PutM}{id a d u num min:Int}(h:(bAdd L id a d u num min).1≠0):(bAdd L id a d u num min).2=L:=by
 unfold bAdd at h ⊢
 repeat' split
 all_goals first|rfl|(simp_all)
theorem F30{p:A0t->Prop}{T:Option AN}{k:A0t}{n:Int}(h:TOkT p T)(ha:iAt T k=some n):∃x,p x/\x.num=n:=by
 unfold iAt at ha;split at ha
 ·next x hx=>
  split at ha
  ·exact⟨x,D2u h hx,by simpa using ha⟩
  ·cases ha
 ·cases ha
theorem C7l{M:A02}{k:A0t}{N:Int}(h:TOkT (fun x=>spOk x/\x.num<=N) M.X)(h0:k.num≠0)(hk:N<k.num):iPut M.X k=(0,some (tPut M.X k)):=by
 unfold iPut;rw[if_neg h0,if_neg];split
 ·next n hn=>
  obtain⟨x,hx,rfl⟩:=F30 h hn;have:=hx.2;simp;omega
 ·simp
theorem D19{M:A02}{k:A1k}(h:Inv M)(hr:A6t k=true)(hn:M.top<k.num)(hm:M.now<=k.min) :
  InvN (A59 M k).2 k.num k.min/\((A59 M k).1≠0->Inv (A59 M k).2)/\(A59 M k).2.top=M.top/\(A59 M k).2.now=M.now:=by
 have hr':=hr;simp only[A6t,Bool.and_eq_true,decide_eq_true_eq,A3n]at hr';have hN:=h.n (N:=k.num) (t:=k.min) (by omega) (by omega)
 unfold A59;by_cases k3:k.kind<=3
 ·rw[if_pos k3];have hp:=C7l (k:=B0x k) h.idx (by simp only[B0x];omega) (by simpa only[B0x]using hn)
  have hA:InvN { M with T:=(tAdd M.T k.num k.min).2 } k.num k.min:=⟨hN.idx,fun x hx=>by
   rcases E29 hx with hx|rfl
   ·exact hN.tab x hx
   ·exact⟨Int.le_refl _,Int.le_refl _⟩,hN.book,hN.sizes⟩
  unfold B4w;split
  ·next e=>exact⟨hA,fun _=>⟨h.idx,by simp only[D2n e];exact h.tab,h.book,h.sizes⟩,rfl,rfl⟩
  ·split
   ·rw[hp];exact⟨⟨fun a e=>by cases e;exact D5p hN.idx ⟨A84 hr k3,Int.le_refl _⟩,hA.tab,hA.book,hA.sizes⟩,fun e=>absurd rfl e,rfl,rfl⟩
   ·exact⟨hA,fun e=>absurd rfl e,rfl,rfl⟩
 rw[if_neg k3];by_cases k4:k.kind=4
 ·rw[if_pos k4];exact⟨⟨hN.idx,hN.tab,hN.book,hN.sizes⟩,fun _=>⟨h.idx,h.tab,h.book,h.sizes⟩,rfl,rfl⟩
 rw[if_neg k4];by_cases k5:k.kind=5
 ·rw[if_pos k5];exact⟨⟨hN.idx,hN.tab,hN.book,hN.sizes⟩,fun _=>⟨h.idx,h.tab,h.book,h.sizes⟩,rfl,rfl⟩
 rw[if_neg k5];by_cases k6:k.kind=6
 ·rw[if_pos k6];exact⟨⟨hN.idx,hN.tab,fun p hp=>by
   rcases E2p hp with hp|⟨rfl,hu⟩
   ·exact hN.book p hp
   ·exact⟨Int.le_refl _,hu⟩,hN.sizes⟩,fun e=>⟨h.idx,h.tab,by simp only[D5m e];exact h.book,h.sizes⟩,rfl,rfl⟩
 rw[if_neg k6];by_cases k7:k.kind=7
 ·rw[if_pos k7];exact⟨⟨hN.idx,hN.tab,fun p hp=>hN.book p (B5e p hp),hN.sizes⟩,fun _=>⟨h.idx,h.tab,fun p hp=>h.book p (B5e p hp),h.sizes⟩,rfl,rfl⟩
 rw[if_neg k7];exact⟨hN,fun _=>h,rfl,rfl⟩
theorem B2f{M:A02}{k:A1k}(h:Inv M):Inv (A16 M k).2/\((A16 M k).2.top=M.top/\(A16 M k).2.now=M.now\/(A16 M k).2.top=k.num/\(A16 M k).2.now=k.min/\M.now<=k.min/\M.top<k.num):=by
 unfold A16;split
 ·exact⟨h,.inl ⟨rfl,rfl⟩⟩
 ·next hr=>
  simp only[Bool.not_eq_true',Bool.not_eq_false]at hr;split
  ·exact⟨h,.inl ⟨rfl,rfl⟩⟩
  ·next hp=>
   split
   ·exact⟨h,.inl ⟨rfl,rfl⟩⟩
   ·obtain⟨g1,g2,g3,g4⟩:=D19 h hr (by omega) (by omega)
    split
    ·next e=>exact⟨g2 e,.inl ⟨g3,g4⟩⟩
    ·exact⟨⟨g1.idx,g1.tab,g1.book,g1.sizes⟩,.inr ⟨rfl,rfl,by omega,by omega⟩⟩
theorem D2g{M:A02}{n:Int}(h:Inv M):Inv (C4b M n)/\(C4b M n).top=M.top/\((C4b M n).now=M.now\/(C4b M n).now=n):=by
 unfold C4b;split
 ·exact⟨h,rfl,.inl rfl⟩
 ·next hn=>
  have:=h.n (N:=M.top) (t:=n) (Int.le_refl _) (by omega)
  exact⟨⟨this.idx,this.tab,this.book,this.sizes⟩,rfl,.inr rfl⟩
end Go.Zz
set_option maxRecDepth 20000
set_option linter.all false
namespace Go.Zz
open Go
variable {X : Y0}
section
variable {s S : St} {o o' : Nat → Nat} {d : Nat → Prop} {c m t' t f b mc : Nat} {sl : Value} {M : A02} {Q : Post}
theorem A77{v w:Value}{rs:List RuleM}{l:List StepM}(c:Nat)(hc:c≠0)(hK:A2z s o)(hv:A3m.In s v rs)(hw:∀S o',Fd s S o o' (inC c)->A3x.In S w l)(ha:∀x∈l,0<=x.a)
  (hno:Q (.pointer none) s) (hyes:∀m M S o',Fd s S o o' (inC c)->C35 S o' c m M->Inv M->M.top<=14->M.now<=14000->A2z S o'->Q (.pointer (some ⟨m,0,none⟩)) S):CC X 9 [v,w] Q s:=by
 have hw0:=hw s o .refl;have hlen:=fun S'=>hw0.len (P:=P) B2e (s':=S');have hrlen:=fun S'=>hv.len (P:=P) A52 (s':=S');refine f9xin rfl ?_;by_cases h14:(14:Int)<l.length
 ·try simp -implicitDefEqProofs (disch:=first|exact dsc|fail)[-B8i,-B9r,-A92,-C1f,-B8p,-B85,-B92,-B1y,hlen,hrlen,h14]
  exact hno
 ·by_cases h6:(6:Int)<rs.length
  ·try simp -implicitDefEqProofs (disch:=first|exact dsc|fail)[-B8i,-B9r,-A92,-C1f,-B8p,-B85,-B92,-B1y,hlen,hrlen,h14,h6]
   exact hno
  ·try simp -implicitDefEqProofs (disch:=first|exact dsc|fail)[-B8i,-B9r,-A92,-C1f,-B8p,-B85,-B92,-B1y,hlen,hrlen,h14,h6]
   try simp -implicitDefEqProofs (disch:=first|exact dsc|fail)[]
   refine E41 fun I hI=>?_;have FB:(∀x∈l,0<=x.d/\x.d<=1000)->C39 (CC X) Q s v w s:=by
    intro hd
    try simp -implicitDefEqProofs (disch:=first|exact dsc|fail)[-B8i,-B9r,-A92,-C1f,-B8p,-B85,-B92,-B1y]
    refine B7o hv.data hv.bel ?_
    try simp -implicitDefEqProofs (disch:=first|exact dsc|fail)[-B8i,-B9r,-A92,-C1f,-B8p,-B85,-B92,-B1y]
    refine C6k (o:=o) c hc hv (by omega) (by omega) (fun A m S1 o1 hM hA1 hA2 F1=>?_) (fun e S1 he _ o1=>?_)
    ·try simp -implicitDefEqProofs (disch:=first|exact dsc|fail)[hlen]
     refine E3j fun I hI=>?_;refine up (n:=l.length) (M:=fun i=>∀S o' M,Fd s S o o' (inC c)->C35 S o' c m M->Inv M->M.top<=i->M.now<=1000*i->A2z S o'->I (.pointer (some ⟨m,0,none⟩)) w (.int .i64 l.length) (.int .i64 i) S) (fun i hi ih S o' M F hM hI' ht hn hK=>?_) 0 (Nat.zero_le _) S1 o1 _ (F1.mono (fun _ h=>h.elim)) hM ⟨(fun a e=>nomatch e),(fun x h=>nomatch h),(fun x h=>nomatch h),rfl,rfl⟩ (Int.le_refl _) (Int.le_refl _) (hK.fd F1 id);refine hI _ _ _ _ _ ?_;have hwS:=hw S o' F;by_cases hlt:i<l.length
     ·have q2:=hwS.agg hlt;simp only[A3x]at q2;obtain⟨x,t,f,b,mc,sl,hM⟩:=hM;have hdi:=hd _ (List.getElem_mem hlt);have hai:=ha _ (List.getElem_mem hlt);generalize l[i]=y at *;obtain⟨ykind,ybr,yvol,yblk,ya,yb,yd⟩:=y;simp only at hdi hai q2;have hp0:¬inC c 0:=by unfold inC;omega
      have o2:Old S (S.alloc (.cells (A3x.cells ⟨ykind,ybr,yvol,yblk,ya,yb,yd⟩) false)):=by simp
      have f2:Fd S (S.alloc (.cells (A3x.cells ⟨ykind,ybr,yvol,yblk,ya,yb,yd⟩) false)) o' o' (fun _=>False):=o2.fd;have h2:=hM.old o2;have hK2:=hK.old o2;simp only[A3x]at o2 f2 h2 hK2;have b2:(S.alloc (.cells (A3x.cells ⟨ykind,ybr,yvol,yblk,ya,yb,yd⟩) false)).heap S.next=some (.cells (A3x.cells ⟨ykind,ybr,yvol,yblk,ya,yb,yd⟩) false):=St.alloc_self
      have n2:(S.alloc (.cells (A3x.cells ⟨ykind,ybr,yvol,yblk,ya,yb,yd⟩) false)).next=S.next+1:=by simp
      have F2:=F.trans (f2.mono (fun _ h=>h.elim));have hnow:=h2.now;simp only[A3x]at b2 n2 F2;by_cases k3:ykind=3
      ·try simp -implicitDefEqProofs (disch:=first|exact dsc|fail)[-B8i,-B9r,-A92,-C1f,-B8p,-B85,-B92,-B1y,hlt]
       try simp -implicitDefEqProofs (disch:=first|exact dsc|fail)[-A92,hwS.idx,q2,k3]
       subst k3;generalize S.alloc _=S2 at *;refine A06 h2 ?_;have hw':IntKind.i64.wrap (M.now+yd)=M.now+yd:=wrap_i64 (by omega) (by omega)
       try simp -implicitDefEqProofs (disch:=first|exact dsc|fail)[-A92,b2,hw']
       refine D83 h2 fun e S3 f3 h3=>?_
       try simp -implicitDefEqProofs (disch:=first|exact dsc|fail)[]
       obtain⟨i1,i2,i3⟩:=D2g (n:=M.now+yd) hI';exact ih hlt S3 o' _ (F2.trans (f3.into (k:=0) (by omega))) ⟨_,_,_,_,_,_,h3⟩ i1 (by omega) (by omega) (hK2.fd f3 (by omega))
      ·by_cases k8:ykind=8
       ·try simp -implicitDefEqProofs (disch:=first|exact dsc|fail)[-B8i,-B9r,-A92,-C1f,-B8p,-B85,-B92,-B1y,hlt]
        try simp -implicitDefEqProofs (disch:=first|exact dsc|fail)[-A92,hwS.idx,q2,k8]
        subst k8;generalize S.alloc _=S2 at *;refine C5q h2 fun e S3 o3 M3 f3 h3 l3=>?_
        try simp -implicitDefEqProofs (disch:=first|exact dsc|fail)[]
        exact ih hlt S3 o3 _ (F2.trans f3) ⟨_,_,_,_,_,_,h3⟩ (l3.inv hI') (by have:=l3.top;omega) (by have:=l3.now;omega) (hK2.fd f3 hp0)
       ·try simp -implicitDefEqProofs (disch:=first|exact dsc|fail)[-B8i,-B9r,-A92,-C1f,-B8p,-B85,-B92,-B1y,hlt]
        try simp -implicitDefEqProofs (disch:=first|exact dsc|fail)[-A92,hwS.idx,q2,k3,k8]
        generalize S.alloc _=S2 at *;refine C4l (x:=⟨ykind,ybr,yvol,yblk,ya,yb,yd⟩) h2 hai fun k v3 S3 o3 f3 hk1 hk2 hk3=>?_;have h3:=h2.fd f3 (fun _ h=>h.elim) id
        try simp -implicitDefEqProofs (disch:=first|exact dsc|fail)[-A92]
        refine A70 (hK2.fd f3 id) h3 hk1.1 (fun S o' F=>(hk1.fd F hp0).1) fun S4 o4 f4 h4=>?_
        try simp -implicitDefEqProofs (disch:=first|exact dsc|fail)[]
        obtain⟨i1,i2⟩:=B2f (k:=k) hI';exact ih hlt S4 o4 _ ((F2.trans (f3.mono (fun _ h=>h.elim))).trans f4) ⟨_,_,_,_,_,_,h4⟩ i1 (by omega) (by omega) ((hK2.fd f3 id).fd f4 hp0)
     ·try simp -implicitDefEqProofs (disch:=first|exact dsc|fail)[hlt]
      exact A0a (hyes m M S o' F hM hI' (by omega) (by omega) hK)
    ·try simp -implicitDefEqProofs (disch:=first|exact dsc|fail)[he]
     exact A0b o1 (by simp) hno
   refine up (n:=l.length) (M:=fun i=>(∀j (hj:j<l.length),j<i->0<=l[j].d/\l[j].d<=1000)->I v w (.pointer none) (.int .i64 i) s) (fun i hi ih hd=>?_) 0 (Nat.zero_le _) (fun j hj h=>absurd h (by omega))
   refine hI _ _ _ _ _ ?_;by_cases hlt:i<l.length
   ·have q1:=hw0.fld (n:=1) hlt (k:=6) (by omega)
    simp only[A3x,List.getElem?_cons_succ,List.getElem?_cons_zero]at q1;by_cases g1:l[i].d<0
    ·try simp -implicitDefEqProofs (disch:=first|exact dsc|fail)[hlen,hlt,hw0.idx,hw0.fa,q1,g1]
     exact hno
    ·by_cases g2:1000<l[i].d
     ·try simp -implicitDefEqProofs (disch:=first|exact dsc|fail)[hlen,hlt,hw0.idx,hw0.fa,q1,g1,g2]
      exact hno
     ·try simp -implicitDefEqProofs (disch:=first|exact dsc|fail)[hlen,hlt,hw0.idx,hw0.fa,q1,g1,g2]
      exact ih hlt (fun j hj h=>by
       by_cases e:j=i
       ·subst e;omega
       ·exact hd j hj (by omega))
   ·try simp -implicitDefEqProofs (disch:=first|exact dsc|fail)[-C39,hlen,hlt]
    exact FB (fun x hx=>by obtain⟨j,hj,rfl⟩:=List.getElem_of_mem hx;exact hd j hj (by omega))
end
end Go.Zz
set_option maxRecDepth 20000
set_option linter.all false
namespace Go.Zz
open Go
variable {X : Y0}
def B3s(M:A02)(t:Int)(xs:List Int):Prop:=xs.Pairwise (·<·)/\∀n,n∈xs↔C3j M t n
theorem B3s.len{M M':A02}{t t':Int}{xs ys:List Int}(h:B3s M t xs)(g:B3s M' t' ys)(hs:∀n,C3j M t n->C3j M' t' n):xs.length<=ys.length:=
 A38 (h.1.imp (fun h=>by omega)) (fun n hn=>(g.2 n).2 (hs n ((h.2 n).1 hn)))
open Classical in
noncomputable def A45(M:A02)(t:Int):Nat:=if h:∃xs,B3s M t xs then h.choose.length else 0
theorem A9y{M:A02}{t:Int}{xs:List Int}(h:B3s M t xs):xs.length=A45 M t:=by
 have hx:∃xs,B3s M t xs:=⟨xs,h⟩;unfold A45;rw[dif_pos hx];exact Nat.le_antisymm (h.len hx.choose_spec (fun _ h=>h)) (hx.choose_spec.len h (fun _ h=>h))
def ptE:Enc (Int×Int) 2:=⟨fun p=>[.int .i64 p.1,.int .i64 p.2],fun _=>rfl⟩
section
variable {s S : St} {o o' : Nat → Nat} {d : Nat → Prop} {c m x t f b mc : Nat} {sl : Value} {M : A02} {Q : Post}
theorem A3p{now:Int}(h:A01 s o c m x t f b mc sl M)(hq:∀v S xs,(intE .u64).New s S v xs->B3s M now xs->xs.length=A45 M now->xs.length<=65536->Q v S):CC X 12 [.pointer (some ⟨m,0,none⟩),.int .i64 now] Q s:=by
 refine C14 h fun v S xs k1 k2 k3=>hq v S xs k1 ⟨k2,k3⟩ (A9y ⟨k2,k3⟩) ?_;have hxl:xs.length<=((List.range 65536).map (fun i:Nat=>(i:Int))).length:=A38 (k2.imp (fun h=>by omega)) (fun q hq=>by
  have:=h.cells.rng q ((k3 q).1 hq).1;exact List.mem_map.2 ⟨q.toNat,List.mem_range.2 (by omega),by omega⟩)
 simpa using hxl
theorem A9p{v:Value}{ms:List Int}(h:A01 s o c m x t f b mc sl M)(hv:(intE .i64).In s v ms)(hl:ms.length<=16000000)(hq:∀v S,ptE.New s S v (ms.map fun t=>(t,(A45 M t:Int)))->Q v S):CC X 11 [.pointer (some ⟨m,0,none⟩),v] Q s:=by
 have hlen:=fun S=>hv.len (P:=P) A00 (s':=S);refine E64 rfl ?_
 try simp -implicitDefEqProofs (disch:=first|exact dsc|fail)[A0j A0f,hlen,mkFn]
 refine D44 fun I hI=>?_;refine up (n:=ms.length) (M:=fun i=>∀S u ρ,Old s S->ptE.Own S u ρ ((ms.take i).map fun t=>(t,(A45 M t:Int)))->(∀r,ρ=some r->s.next<=r)->I (.func (.func 12) #[.pointer (some ⟨m,0,none⟩)] #[]) u v (.int .i64 ms.length) (.int .i64 i) S) (fun i hi ih S u ρ ho hown hρ=>?_) 0 (Nat.zero_le _) s (.slice none 0 0) none (.refl _) .nil (by simp)
 refine hI _ _ _ _ _ _ ?_;have hvS:=hv.old ho;by_cases hlt:i<ms.length
 ·try simp -implicitDefEqProofs (disch:=first|exact dsc|fail)[hlt,hvS.idx,hvS.one]
  refine A3p (h.old ho) fun v2 S2 xs k1 k2 k3 k4=>?_;have hl2:=k1.in_.len (P:=P) A0c (s':=S2);have o2:=k1.old_;have hown2:=hown.same (s':=S2) o2.le (fun r hr=>o2.eq (by subst hr;exact hown.lt))
  try simp -implicitDefEqProofs (disch:=first|exact dsc|fail)[hl2]
  have htl:((ms.take i).map fun t=>(t,(A45 M t:Int))).length<=16000000:=by simp;omega
  refine hown2.push (a:=(ms[i],(xs.length:Int))) C5l C4q (by simp) (by simp[ptE]) (by omega) (by omega) fun v' S3 ρ' w1 w2 w3=>?_
  try simp -implicitDefEqProofs (disch:=first|exact dsc|fail)[]
  refine ih hlt S3 v' ρ' ⟨by have:=ho.le;have:=o2.le;have:=w2.le;omega,fun {b} hb=>(w2.eq (by have:=ho.le;have:=o2.le;omega) (fun e=>by have:=hρ b e;omega)).trans ((o2.eq (by have:=ho.le;omega)).trans (ho.eq hb))⟩ ?_ (fun r hr=>?_)
  ·rw[k3]at w1;rw[<-List.take_append_getElem hlt,List.map_append];exact w1
  ·rcases w3 r hr with e|e
   ·exact hρ r e
   ·have:=ho.le;have:=o2.le;omega
 ·try simp -implicitDefEqProofs (disch:=first|exact dsc|fail)[hlt]
  rw[List.take_of_length_le (by omega)]at hown
  exact A0a (hq u S ⟨ρ,hown,ho,hρ⟩)
theorem A6j:binV P .eql 25 (.pointer none) (.pointer none)=some (.bool true):=by kernel_rfl
theorem D3j{v:Value}(hq:Q (.slice none 0 0) s):CC X 11 [.pointer none,v] Q s:=by
 refine E64 rfl ?_
 try simp -implicitDefEqProofs (disch:=first|exact dsc|fail)[A6j]
 exact hq
theorem C8x(hq:Q (.slice none 0 0) s):CC X 19 [.pointer none] Q s:=by
 refine E88 rfl ?_
 try simp -implicitDefEqProofs (disch:=first|exact dsc|fail)[A6j]
 exact hq
theorem C2g{v w u:Int}(hq:Q (.tuple #[.int .i64 0,.bool false]) s):CC X 18 [.pointer none,.int .i64 v,.int .i64 w,.int .i64 u] Q s:=by
 refine D5j rfl ?_
 try simp -implicitDefEqProofs (disch:=first|exact dsc|fail)[A6j]
 exact hq
theorem B4p(h:A01 s o c m x t f b mc sl M)(hq:∀v S (ms:List Int),Old s S->ptE.In S v (ms.map fun t=>(t,(A45 M t:Int)))->ms.Pairwise (·<·)->ms.length<=16000000->(∀t,t∈ms↔M.now<t/\D0w M.law t)->Q v S):CC X 19 [.pointer (some ⟨m,0,none⟩)] Q s:=by
 refine E88 rfl ?_
 try simp -implicitDefEqProofs (disch:=first|exact dsc|fail)[A0j A0f]
 refine E1o (c+6) (by have:=h.pos;omega) h fun t' b' f' S1 o1 f1 hL=>?_
 have h1:=h.fd f1 (fun _ h=>h.elim) id
 try simp -implicitDefEqProofs (disch:=first|exact dsc|fail)[]
 refine A06 h1 ?_
 try simp -implicitDefEqProofs (disch:=first|exact dsc|fail)[]
 refine C8j hL fun v S2 ms k1 k2 k3 k4=>?_
 try simp -implicitDefEqProofs (disch:=first|exact dsc|fail)[]
 refine A9p (h1.old k1.old_) k1.in_ (by omega) fun v' S3 k5=>?_
 try simp -implicitDefEqProofs (disch:=first|exact dsc|fail)[]
 exact A0a (hq v' S3 ms (((⟨f1.chg.le,fun {b} hb=>f1.chg.eq hb id⟩:Old s S1).trans k1.old_).trans k5.old_) k5.in_ k3 (by omega) k4)
def A14(M:A02)(t br vol blk:Int):A1k:=⟨1,M.top+1,t,br,vol,blk,0,0,0,0,List.replicate 32 0⟩
theorem C2a{min br vol blk:Int}(h:A01 s o c m x t f b mc sl M)(hq:∀v S,(intE .u8).New s S v (List.replicate 32 0)->Q (A1r (A14 M min br vol blk) v) S):CC X 44 [.pointer (some ⟨m,0,none⟩),.int .i64 min,.agg #[.int .i64 br,.int .i64 vol,.int .i64 blk]] Q s:=by
 have hb:=h.heap;have hlt:=h.blk.lt;have htop:=h.top;have hw:IntKind.u64.wrap (M.top+1)=M.top+1:=A65 (by omega) (by omega)
 refine G5r rfl ?_
 try simp -implicitDefEqProofs (disch:=first|exact dsc|fail)[C8m]
 refine A9o (h.old (by repeat (first|exact Old.refl _|apply Old.alloc))) ?_
 try simp -implicitDefEqProofs (disch:=first|exact dsc|fail)[C8m,hw]
 have o2:Old s ((s.alloc (.cells [.int .i64 br,.int .i64 vol,.int .i64 blk] false)).alloc (.cells [.int .i64 1,.int .u64 (M.top+1),.int .i64 min,.int .i64 br,.int .i64 vol,.int .i64 blk,.int .u64 0,.int .i64 0,.int .i64 0,.int .i64 0,.slice (some ⟨s.next+1+1,0,none⟩) 32 32] false)):=((Old.refl s).alloc).alloc
 have n2:((s.alloc (.cells [.int .i64 br,.int .i64 vol,.int .i64 blk] false)).alloc (.cells [.int .i64 1,.int .u64 (M.top+1),.int .i64 min,.int .i64 br,.int .i64 vol,.int .i64 blk,.int .u64 0,.int .i64 0,.int .i64 0,.int .i64 0,.slice (some ⟨s.next+1+1,0,none⟩) 32 32] false)).next=s.next+1+1:=by simp
 generalize (s.alloc (.cells [.int .i64 br,.int .i64 vol,.int .i64 blk] false)).alloc _=S2 at *;refine A0a (hq (.slice (some ⟨s.next+1+1,0,none⟩) 32 32) _ ⟨some S2.next,?_,o2.alloc,fun r hr=>by cases hr;omega⟩)
 rw[<-n2];exact Enc.Own.row (E:=intE .u8) (xs:=List.replicate 32 0) (post:=[]) (tl:=false) (by simp) St.alloc_self (.inr (by decide))
end
end Go.Zz
