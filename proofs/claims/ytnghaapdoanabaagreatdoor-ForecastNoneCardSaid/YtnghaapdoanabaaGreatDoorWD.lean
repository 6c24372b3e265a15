import Derived.Test.YtnghaapdoanabaaGreatDoorWC
set_option linter.all false
set_option maxRecDepth 20000
set_option linter.all false
namespace Go.Zz
open Go
variable {X : Y0}
structure Twig where
 alive:Bool
 parent:Int
 base:Int
 num:Int
def twE:Enc Twig 4:=⟨fun x=>[.bool x.alive,.int .i64 x.parent,.int .u64 x.base,.int .u64 x.num],fun _=>rfl⟩
@[simp]theorem G6d(x:Twig):twE.cells x=[.bool x.alive,.int .i64 x.parent,.int .u64 x.base,.int .u64 x.num]:=rfl
def tw0:Twig:=⟨false,0,0,0⟩
def twAt(F:List Twig)(id:Int):Twig:=F.getD id.toNat tw0
structure ForC(s:St)(o:Nat->Nat)(c f:Nat)(F:List Twig):Prop where
 blk:Blk s f (twE.row F)
 len:F.length=16
 col:o f=c
theorem ForC.fd{s S:St}{o o':Nat->Nat}{d:Nat->Prop}{c f:Nat}{F:List Twig}(h:ForC s o c f F)(g:Fd s S o o' d)(hd:¬d c):ForC S o' c f F:=
 ⟨h.blk.fd g (by rw[h.col];exact hd),h.len,(g.col h.blk.lt).trans h.col⟩
def A2v(F:List Twig)(id:Int):Bool:=decide (0<=id)&&decide (id<16)&&(decide (id=0)||(twAt F id).alive)
def fNum(F:List Twig)(id:Int):Option Int:=if A2v F id then some (twAt F id).num else none
def E2e(F:List Twig)(id:Int):Nat:=if A2v F id then F.countP (fun x=>x.alive&&decide (x.parent=id))else 0
def B3b(F:List Twig)(id p b n:Int):Int×List Twig:=
 if id<1\/16<=id then(2,F)else if(twAt F id).alive then(5,F)else if !A2v F p then(4,F)
 else if b<(twAt F p).num\/n<=b then(15,F)else(0,F.set id.toNat ⟨true,p,b,n⟩)
def B6i(F:List Twig)(id:Int):Int×List Twig:=
 if id=0 then(7,F)else if !A2v F id then(4,F)else if 0<E2e F id then(12,F)else(0,F.set id.toNat tw0)
theorem A9u{F:List Twig}{id:Int}(h:A2v F id=true):0<=id/\id<16:=by
 simp[A2v]at h;omega
section
variable {s : St} {o : Nat → Nat} {c f : Nat} {F : List Twig} {id : Int} {Q : Post}
theorem ForC.fld(h:ForC s o c f F){n k:Nat}(h1:0<=id)(h2:id<16)(hk:k<4):A04 (some (false,n)) (.pointer (some ⟨f,id.toNat*4+k,none⟩)) s=(twE.cells (twAt F id))[k]?:=
 h.blk.fld (by have:=h.len;omega) hk
theorem ForC.fld0(h:ForC s o c f F){n:Nat}(h1:0<=id)(h2:id<16):A04 (some (false,n)) (.pointer (some ⟨f,id.toNat*4,none⟩)) s=some (.bool (twAt F id).alive):=
 h.fld (k:=0) h1 h2 (by decide)
theorem A5d(h:ForC s o c f F)(hq:Q (.bool (A2v F id)) s):CC X 63 [.pointer (some ⟨f,0,none⟩),.int .i64 id] Q s:=by
 refine H06 rfl ?_;unfold A2v at hq;by_cases h1:id<0
 ·try simp -implicitDefEqProofs (disch:=first|exact dsc|fail)[A0j A0w,h1]
  simpa[show ¬0<=id by omega]using hq
 ·by_cases h2:16<=id
  ·try simp -implicitDefEqProofs (disch:=first|exact dsc|fail)[A0j A0w,h1,h2]
   simpa[show ¬id<16 by omega]using hq
  ·by_cases h3:id=0
   ·subst h3
    try simp -implicitDefEqProofs (disch:=first|exact dsc|fail)[A0j A0w]
    simpa using hq
   ·try simp -implicitDefEqProofs (disch:=first|exact dsc|fail)[A0j A0w,h1,h2,h3,h.fld0]
    simpa[show 0<=id by omega,show id<16 by omega,h3]using hq
theorem C1x(h:ForC s o c f F)(hq:Q (.tuple #[.int .u64 ((fNum F id).getD 0),.bool (fNum F id).isSome]) s):CC X 30 [.pointer (some ⟨f,0,none⟩),.int .i64 id] Q s:=by
 refine G3q rfl ?_
 try simp -implicitDefEqProofs (disch:=first|exact dsc|fail)[]
 refine A5d h ?_;unfold fNum at hq;by_cases ha:A2v F id=true
 ·obtain⟨h1,h2⟩:=A9u ha
  try simp -implicitDefEqProofs (disch:=first|exact dsc|fail)[ha,h.fld]
  simpa[ha]using hq
 ·try simp -implicitDefEqProofs (disch:=first|exact dsc|fail)[ha]
  simpa[ha]using hq
theorem C18(h:ForC s o c f F)(hq:Q (if id≠0/\A2v F id then .tuple #[.int .i64 (twAt F id).parent,.int .u64 (twAt F id).base,.bool true]else .tuple #[.int .i64 0,.int .u64 0,.bool false]) s):CC X 166 [.pointer (some ⟨f,0,none⟩),.int .i64 id] Q s:=by
 refine F8e rfl ?_;by_cases h0:id=0
 ·try simp -implicitDefEqProofs (disch:=first|exact dsc|fail)[h0]
  simpa[h0]using hq
 ·try simp -implicitDefEqProofs (disch:=first|exact dsc|fail)[h0]
  refine A5d h ?_;by_cases ha:A2v F id=true
  ·obtain⟨h1,h2⟩:=A9u ha
   try simp -implicitDefEqProofs (disch:=first|exact dsc|fail)[ha,h.fld]
   simpa[ha,h0]using hq
  ·try simp -implicitDefEqProofs (disch:=first|exact dsc|fail)[ha]
   simpa[ha]using hq
theorem C79(h:ForC s o c f F)(hq:Q (.int .i64 (E2e F id)) s):CC X 246 [.pointer (some ⟨f,0,none⟩),.int .i64 id] Q s:=by
 refine F6g rfl ?_;have hl:=h.len
 try simp -implicitDefEqProofs (disch:=first|exact dsc|fail)[]
 refine A5d h ?_;unfold E2e at hq;by_cases ha:A2v F id=true
 ·rw[if_pos ha]at hq;have hld:=B4j (o:=0) (n:=64) h.blk.eq (by simp[hl])
  rw[List.drop_zero,List.take_of_length_le (by simp[hl])]at hld
  try simp -implicitDefEqProofs (disch:=first|exact dsc|fail)[ha,hld]
  refine D14 fun I hI=>?_;refine up (n:=16) (M:=fun i=>∀(k:Nat) S,Old s S->k<=i->k+(F.drop i).countP (fun x=>x.alive&&decide (x.parent=id))=F.countP (fun x=>x.alive&&decide (x.parent=id))->I (.int .i64 id) (.int .i64 k) (.agg (twE.row F).toArray) (.int .i64 i) S) (fun i hi ih k S hS hk hc=>?_) 0 (Nat.zero_le _) 0 s (.refl _) (Nat.le_refl _) (by simp)
  refine hI _ _ _ _ _ ?_;by_cases hlt:i<16
  ·have hlz:(i:Int)<16:=by omega
   have hF:F.drop i=twAt F i::F.drop (i+1):=by
    rw[List.drop_eq_getElem_cons (by omega)];congr 1;simp[twAt,List.getD_eq_getElem?_getD,List.getElem?_eq_getElem (show i<F.length by omega)]
   rw[hF,List.countP_cons]at hc;have hix:=C8u (E:=twE) (xs:=F) (z:=tw0) (q:=.i64) (j:=(i:Nat)) (l:=16) hl.symm (by omega) (by omega)
   rw[show F.getD (i:Int).toNat tw0=twAt F i from rfl]at hix
   by_cases ha1:(twAt F i).alive=true
   ·by_cases ha2:(twAt F i).parent=id
    ·try simp -implicitDefEqProofs (disch:=first|exact dsc|fail)[hlz,hix,ha1,ha2]
     have:=ih hlt (k+1) (S.alloc (.cells (twE.cells (twAt F i)) false)) hS.alloc (by omega) (by simp[ha1,ha2]at hc;omega)
     simpa[ha1,ha2]using this
    ·try simp -implicitDefEqProofs (disch:=first|exact dsc|fail)[hlz,hix,ha1,ha2]
     have:=ih hlt k (S.alloc (.cells (twE.cells (twAt F i)) false)) hS.alloc (by omega) (by simpa[ha1,ha2]using hc)
     simpa[ha1]using this
   ·try simp -implicitDefEqProofs (disch:=first|exact dsc|fail)[hlz,hix,ha1]
    have:=ih hlt k (S.alloc (.cells (twE.cells (twAt F i)) false)) hS.alloc (by omega) (by simpa[ha1]using hc)
    simpa[ha1]using this
  ·have hlz:¬(i:Int)<16:=by omega
   try simp -implicitDefEqProofs (disch:=first|exact dsc|fail)[hlz]
   rw[List.drop_of_length_le (by omega)]at hc
   simp only[List.countP_nil,Nat.add_zero]at hc;rw[<-hc]at hq;exact A0b hS (.int _ _) hq
 ·try simp -implicitDefEqProofs (disch:=first|exact dsc|fail)[ha]
  simpa[ha]using hq
theorem ForC.lwr(h:ForC s o c f F){x:Twig}(h1:0<=id)(h2:id<16):lwr (twE.row F) (id.toNat*4) [.bool x.alive,.int .i64 x.parent,.int .u64 x.base,.int .u64 x.num]=twE.row (F.set id.toNat x):=by
 have:=D5b (E:=twE) (post:=[]) (xs:=F) (j:=id.toNat) (cs:=twE.cells x) (off:=0) (a:=x) (by have:=h.len;omega) (by simp) (by simp[Go.Zz.lwr])
 simpa using this
theorem ForC.set(h:ForC s o c f F){i:Nat}{x:Twig}:ForC (s.put f (.cells (twE.row (F.set i x)) false)) o c f (F.set i x)/\Fd s (s.put f (.cells (twE.row (F.set i x)) false)) o o (·=c):=
 ⟨⟨⟨by simpa using h.blk.lt,by simp⟩,by simpa using h.len,h.col⟩,⟨⟨by simp,fun _ hb=>St.put_other (fun e=>hb (by rw[e];exact h.col))⟩,fun _=>rfl⟩⟩
theorem C8v{p b n:Int}(h:ForC s o c f F)(hq:∀S,ForC S o c f (B3b F id p b n).2->Fd s S o o (·=c)->Q (.int .i64 (B3b F id p b n).1) S) :
  CC X 237 [.pointer (some ⟨f,0,none⟩),.int .i64 id,.int .i64 p,.int .u64 b,.int .u64 n] Q s:=by
 refine F2f rfl ?_;have hl:=h.len;have hbad:∀e,(B3b F id p b n)=(e,F)->Q (.int .i64 e) s:=fun e he=>by
  have:=hq s (by rw[he];exact h) .refl
  rwa [he]at this
 by_cases h1:id<1
 ·try simp -implicitDefEqProofs (disch:=first|exact dsc|fail)[A0j A0w,h1]
  exact hbad 2 (by simp[B3b,h1])
 by_cases h2:16<=id
 ·try simp -implicitDefEqProofs (disch:=first|exact dsc|fail)[A0j A0w,h1,h2]
  exact hbad 2 (by simp[B3b,h2])
 have h3:¬(id<1\/16<=id):=by omega
 by_cases h4:(twAt F id).alive=true
 ·try simp -implicitDefEqProofs (disch:=first|exact dsc|fail)[A0j A0w,h1,h2,h.fld0,h4]
  exact hbad 5 (by simp[B3b,h3,h4])
 try simp -implicitDefEqProofs (disch:=first|exact dsc|fail)[A0j A0w,h1,h2,h.fld0,h4]
 refine A5d h ?_;by_cases h5:A2v F p=true
 ·obtain⟨g1,g2⟩:=A9u h5;by_cases h6:b<(twAt F p).num
  ·try simp -implicitDefEqProofs (disch:=first|exact dsc|fail)[h5,h.fld,h6]
   exact hbad 15 (by simp[B3b,h3,h4,h5,h6])
  ·by_cases h7:n<=b
   ·try simp -implicitDefEqProofs (disch:=first|exact dsc|fail)[h5,h.fld,h6,h7]
    exact hbad 15 (by simp[B3b,h3,h4,h5,h7])
   ·try simp -implicitDefEqProofs (disch:=first|exact dsc|fail)[h5,h.fld,h6,h7,h.blk.eq,h.lwr (id:=id) (x:=⟨true,p,b,n⟩) (by omega) (by omega)]
    refine⟨by omega,?_⟩
    have he:B3b F id p b n=(0,F.set id.toNat ⟨true,p,b,n⟩):=by
     unfold B3b;rw[if_neg h3,if_neg h4,if_neg (by simp[h5]),if_neg (by omega)]
    rw[he]at hq;have:=h.set (i:=id.toNat) (x:=⟨true,p,b,n⟩);exact A0a (hq _ this.1 this.2)
 ·try simp -implicitDefEqProofs (disch:=first|exact dsc|fail)[h5]
  exact hbad 4 (by simp[B3b,h3,h4,h5])
theorem C8a(h:ForC s o c f F)(hq:∀S,ForC S o c f (B6i F id).2->Fd s S o o (·=c)->Q (.int .i64 (B6i F id).1) S) :
  CC X 239 [.pointer (some ⟨f,0,none⟩),.int .i64 id] Q s:=by
 refine F6i rfl ?_;have hl:=h.len;have hbad:∀e,(B6i F id)=(e,F)->Q (.int .i64 e) s:=fun e he=>by
  have:=hq s (by rw[he];exact h) .refl
  rwa [he]at this
 by_cases h1:id=0
 ·try simp -implicitDefEqProofs (disch:=first|exact dsc|fail)[A0j A0w,h1]
  exact hbad 7 (by simp[B6i,h1])
 try simp -implicitDefEqProofs (disch:=first|exact dsc|fail)[A0j A0w,h1]
 refine A5d h ?_;by_cases h5:A2v F id=true
 ·obtain⟨g1,g2⟩:=A9u h5
  try simp -implicitDefEqProofs (disch:=first|exact dsc|fail)[h5]
  refine C79 h ?_;by_cases h6:0<E2e F id
  ·try simp -implicitDefEqProofs (disch:=first|exact dsc|fail)[h6]
   exact hbad 12 (by simp[B6i,h1,h5,h6])
  ·try simp -implicitDefEqProofs (disch:=first|exact dsc|fail)[h6,h.blk.eq,h.lwr (id:=id) (x:=⟨false,0,0,0⟩) g1 g2]
   refine⟨by omega,?_⟩
   have he:B6i F id=(0,F.set id.toNat tw0):=by
    unfold B6i;rw[if_neg h1,if_neg (by simp[h5]),if_neg h6]
   rw[he]at hq;have:=h.set (i:=id.toNat) (x:=tw0);exact A0a (hq _ this.1 this.2)
 ·try simp -implicitDefEqProofs (disch:=first|exact dsc|fail)[h5]
  exact hbad 4 (by simp[B6i,h1,h5])
theorem D2f(hq:∀f S,s.next<=f->Old s S->Blk S f (twE.row (List.replicate 16 tw0))->Q (.pointer (some ⟨f,0,none⟩)) S):CC X 50 [] Q s:=by
 refine G9a rfl ?_
 try simp -implicitDefEqProofs (disch:=first|exact dsc|fail)[]
 exact A0a (hq s.next _ (Nat.le_refl _) (by simp) ⟨by simp,by simp[List.replicate,Enc.row,tw0]⟩)
theorem B48(h:ForC s o c f F)(hq:∀f S,s.next<=f->Old s S->Blk S f (twE.row F)->Q (.pointer (some ⟨f,0,none⟩)) S):CC X 39 [.pointer (some ⟨f,0,none⟩)] Q s:=by
 refine G8z rfl ?_;have hl:=h.len;have hld:=B4j (o:=0) (n:=64) h.blk.eq (by simp[hl])
 rw[List.drop_zero,List.take_of_length_le (by simp[hl])]at hld
 try simp -implicitDefEqProofs (disch:=first|exact dsc|fail)[A0j A0w,hld]
 exact⟨by omega,A0a (hq s.next _ (Nat.le_refl _) (by simp) ⟨by simp,by simp⟩)⟩
end
section
variable {s : St} {o : Nat → Nat} {c f : Nat} {F : List Twig} {Q : Post}
theorem C1z(hq:∀bx S,Blk S bx [.pointer (some ⟨f,0,none⟩)]->Old s S->s.next<=bx->Q (.func (.func 62) #[] #[.pointer (some ⟨bx,0,none⟩)]) S):CC X 29 [.pointer (some ⟨f,0,none⟩)] Q s:=by
 refine G5c rfl ?_
 try simp -implicitDefEqProofs (disch:=first|exact dsc|fail)[mkFn,Value.oneCell']
 exact A0a (hq s.next _ ⟨by simp,by simp⟩ (by simp) (Nat.le_refl _))
theorem C9g{bx y n0:Nat}{J:Nat->(Nat->Prop)->St->Prop}{D:(Nat->Prop)->St->Prop}{M0:Nat->Prop}(hF:∀i M S,J i M S->ForC S o c f F)(hx:∀i M S,J i M S->S.heap bx=some (.cells [.pointer (some ⟨f,0,none⟩)] false))
  (hr:∀i:Nat,i<16->A2v F i=true->B6u (CC X) y n0 [.int .i64 i] (J i) (J (i+1)) D) (hs:∀i:Nat,i<16->A2v F i=false->∀M S,J i M S->J (i+1) M S) (h0:J 0 M0 s)
  (hq:∀M S,J 16 M S->Q (.tuple #[]) S) (hqD:∀M S,D M S->Q (.tuple #[]) S) :
  CC X 62 [.func (.yield y) #[] #[],.pointer (some ⟨bx,0,none⟩)] Q s:=by
 refine G75 rfl ?_
 try simp -implicitDefEqProofs (disch:=first|exact dsc|fail)[]
 refine D4k fun I hI=>?_;refine up (n:=16) (M:=fun i=>∀M S,J i M S->I (.func (.yield y) #[] #[]) (.pointer (some ⟨bx,0,none⟩)) (.int .i64 i) S) (fun i hi ih M S hJ=>?_) 0 (Nat.zero_le _) M0 s h0;refine hI _ _ _ _ ?_;by_cases hlt:i<16
 ·have hlz:(i:Int)<16:=by omega
  try simp -implicitDefEqProofs (disch:=first|exact dsc|fail)[hlz,hx i M S hJ]
  refine A5d (hF i M S hJ) ?_;by_cases ha:A2v F i=true
  ·try simp -implicitDefEqProofs (disch:=first|exact dsc|fail)[ha]
   refine⟨rfl,rfl,hr i hlt ha M S _ hJ (fun M' S3 hJ3 hK=>?_) (fun M' S3 hD hK=>?_)⟩
   ·try simp -implicitDefEqProofs (disch:=first|exact dsc|fail)[ha]
    exact ih hlt M' S3 hJ3
   ·try simp -implicitDefEqProofs (disch:=first|exact dsc|fail)[ha]
    exact A0a (hqD M' S3 hD)
  ·try simp -implicitDefEqProofs (disch:=first|exact dsc|fail)[ha]
   exact ih hlt M S (hs i hlt (by simpa using ha) M S hJ)
 ·have hlz:¬(i:Int)<16:=by omega
  have:i=16:=by omega
  subst this
  try simp -implicitDefEqProofs (disch:=first|exact dsc|fail)[hlz]
  exact A0a (hq M S hJ)
theorem D31{s1:St}{bx:Nat}{L:List Value}{ps:Array Tmp}{ag bd:Code}{K:A0l}{A:Fr}{cc:Nat->Prop}{R:Nat->(Nat->Prop)->St->Prop}{B:Int->Post->St->Prop}(h:ForC s1 o c f F)(hx:Blk s1 bx [.pointer (some ⟨f,0,none⟩)])(hcf:¬cc f)(hcb:¬cc bx)
  (hR:∀i,Stab s1.next (R i)) (hY:∀(id:Int) Q s',s1.next<s'.next->s'.heap s1.next=some (.loop L ps ag bd .ready none)->(s'.heap s1.next=some (.loop L ps ag bd .ready none)/\B id Q (s'.put s1.next (.loop L ps ag bd .busy none)))->CC X (tok s1.next) [.int .i64 id] Q s')
  (hB:∀i:Nat,i<16->A2v F i=true->Body s1 (.loop L ps ag bd .busy none) (.loop L ps ag bd .ready none) cc (R i) (R (i+1)) (B i)) (hs:∀i:Nat,i<16->A2v F i=false->∀M S,R i M S->R (i+1) M S)
  (h0:R 0 (fun _=>False) s1) (hk:∀M S,R 16 M S->Chg s1 S cc->(∀b,M b->s1.next<b/\b<S.next)->K .normal A S) :
  A96 P (CC X) (.func (.func 62) #[] #[.pointer (some ⟨bx,0,none⟩)]) s1.next (fun _ s'=>rfK s1.next K A s') (s1.alloc (.loop L ps ag bd .ready none)):=by
 refine⟨rfl,by simp,?_⟩
 refine C9g (o:=o) (c:=c) (f:=f) (F:=F) (n0:=s1.next+1) (J:=fun i=>JX s1 (.loop L ps ag bd .ready none) cc (R i)) (D:=fun _ _=>False) (fun i M S hJ=>?_) (fun i M S hJ=>?_) (fun i hi ha=>JX.round (hR i) (hR (i+1)) (hY i) (hB i hi ha)) (fun i hi ha M S hJ=>⟨hs i hi ha M S hJ.inv,hJ.ready,hJ.eq,hJ.le,hJ.lt⟩) (JX.start (hR 0) h0) (fun M S hJ=>hJ.done (hR 16) (hk M)) (fun M S h=>h.elim)
 ·exact⟨⟨Nat.lt_trans h.blk.lt hJ.le,(hJ.eq _ h.blk.lt hcf).trans h.blk.eq⟩,h.len,h.col⟩
 ·exact(hJ.eq _ hx.lt hcb).trans hx.eq
def F0i(F:List Twig)(n:Int):Prop:=∃i:Nat,i≠0/\i<16/\A2v F i=true/\(twAt F i).base=n
theorem C4j(h:ForC s o c f F)(hq:∀v S xs,(intE .u64).New s S v xs->xs.length<=16->(∀n,n∈xs↔F0i F n)->Q v S):CC X 141 [.pointer (some ⟨f,0,none⟩)] Q s:=by
 refine F66 rfl ?_
 try simp -implicitDefEqProofs (disch:=first|exact dsc|fail)[]
 refine C1z fun bx S hbx ho hbn=>?_
 try simp -implicitDefEqProofs (disch:=first|exact dsc|fail)[hbx.eq]
 refine B6r fun hY=>?_;have hfn:=h.blk.lt;have hn:=ho.le;simp only[St.alloc_next]at hn hbn;have hF:ForC S o c f F:=⟨(h.blk.old (by simp)).old ho,h.len,h.col⟩
 have hb1:S.heap s.next=some (.cells [.pointer (some ⟨f,0,none⟩)] false):=by rw[ho.eq (by simp;omega),St.alloc_old (by simp),St.alloc_self]
 have hb3:S.heap (s.next+1)=some (.cells [.slice none 0 0] false):=by rw[ho.eq (by simp)];simp
 refine D31 (cc:=(·=s.next+1)) (R:=fun i=>Coll (intE .u64) (s.next+1) (fun xs=>xs.length<=i/\∀n,n∈xs↔∃j:Nat,j≠0/\j<i/\A2v F j=true/\(twAt F j).base=n)) hF hbx (by omega) (by omega) (fun i=>Coll.stab (by omega)) (fun id Q s' _ h1 h2=>hY _ _ _ h1 h2) (fun i hi ha M S2 Q2 hR hch hyn hM hgo=>?_) (fun i hi ha M S2 hR=>?_) (Coll.start hb3 ⟨by simp,by simp⟩) (fun M S2 hR hch hM=>?_)
 ·obtain⟨v,ρ,xs,h1,h2,rfl,h3,h4⟩:=hR;have hF2:ForC S2 o c f F:=⟨hF.blk.chg hch (by omega),hF.len,hF.col⟩
  have hb12:=(hch.eq (b:=s.next) (by omega) (by omega)).trans hb1
  try simp -implicitDefEqProofs (disch:=first|exact dsc|fail)[hb12]
  refine C18 hF2 ?_;by_cases hi0:i=0
  ·subst hi0
   try simp -implicitDefEqProofs (disch:=first|exact dsc|fail)[]
   exact hgo _ S2 ⟨v,ρ,xs,h1,h2,rfl,by omega,fun n=>by rw[h4 n];exact⟨fun⟨j,a,b,c⟩=>⟨j,a,by omega,c⟩,fun⟨j,a,b,c⟩=>by omega⟩⟩ .refl (fun b h=>.inl h)
  ·try simp -implicitDefEqProofs (disch:=first|exact dsc|fail)[hi0,ha,h1]
   refine h2.push (a:=(twAt F i).base) A1o A2m (by simp) (by simp) (by omega) (by omega) fun v' S3 ρ' w1 w2 w3=>?_
   have hb33:S3.heap (s.next+1)=some (.cells [v] false):=by
    rw[w2.eq (by omega) (fun e=>by have:=hM _ e;omega)];exact h1
   try simp -implicitDefEqProofs (disch:=first|exact dsc|fail)[hb33,w1.in_.data]
   have:=Coll.step (p:=fun xs=>xs.length<=i+1/\∀n,n∈xs↔∃j:Nat,j≠0/\j<i+1/\A2v F j=true/\(twAt F j).base=n) (c:=(·=s.next+1)) (y:=S.next) (by omega) rfl hyn hM w1 w2 w3 ⟨by simp;omega,fun n=>?_⟩
   ·obtain⟨g1,g2⟩:=hgo _ _ this.1 this.2.1 this.2.2;rw[St.put_other (by omega)]at g1
    exact⟨g1,g2⟩
   ·rw[List.mem_append,List.mem_singleton,h4 n];constructor
    ·rintro(⟨j,a,b,c⟩|rfl)
     ·exact⟨j,a,by omega,c⟩
     ·exact⟨i,hi0,by omega,ha,rfl⟩
    ·rintro⟨j,a,b,c,d⟩;by_cases e:j=i
     ·subst e;exact .inr d.symm
     ·exact .inl ⟨j,a,by omega,c,d⟩
 ·obtain⟨v,ρ,xs,h1,h2,rfl,h3,h4⟩:=hR;refine⟨v,ρ,xs,h1,h2,rfl,by omega,fun n=>?_⟩
  rw[h4 n];refine⟨fun⟨j,a,b,c⟩=>⟨j,a,by omega,c⟩,fun⟨j,a,b,c,d⟩=>⟨j,a,?_,c,d⟩⟩
  by_cases e:j=i
  ·subst e;rw[ha]at c;cases c
  ·omega
 ·obtain⟨v,ρ,xs,h1,h2,rfl,h3,h4⟩:=hR
  try simp -implicitDefEqProofs (disch:=first|exact dsc|fail)[h1]
  refine C6t h2 (by omega) fun S3 ys k1 k2 k3 k4=>?_
  have hb33:S3.heap (s.next+1)=some (.cells [v] false):=by
   rw[k2.eq (by have:=hch.le;omega) (fun e=>by have:=hM _ e;omega)];exact h1
  try simp -implicitDefEqProofs (disch:=first|exact dsc|fail)[hb33]
  refine C1o k1 (by have:=k3.length_eq;omega) fun v' S4 j1 j2=>?_
  try simp -implicitDefEqProofs (disch:=first|exact dsc|fail)[]
  have o1:Old s S:=((Old.refl s).alloc.alloc (x:=.cells [.slice none 0 0] false)).trans ho;have o2:Old s S2:=o1.trans_chg hch (fun b hb e=>by omega)
  have o3:Old s S3:=o2.trans_chg k2 (fun b hb e=>by have:=hM _ e;omega)
  have o4:Old s S4:=o3.trans_chg j2 (fun b hb e=>by have:=hM _ e;omega)
  refine A0a (hq v' S4 _ ⟨ρ,j1,o4,fun b hb=>by have:=hM b hb;omega⟩ (by have:=C2c ys;have:=k3.length_eq;omega) (fun n=>?_))
  rw[C2y,k3.mem_iff,h4 n];exact⟨fun⟨j,a,b,c,d⟩=>⟨j,a,b,c,d⟩,fun⟨j,a,b,c,d⟩=>⟨j,a,b,c,d⟩⟩
end
end Go.Zz
set_option maxRecDepth 20000
set_option linter.all false
namespace Go.Zz
open Go
variable {X : Y0}
structure PutM where
 id:Int
 «from»:Int
 to:Int
 until_:Int
 num:Int
 min:Int
def putE:Enc PutM 6:=⟨fun x=>[.int .u64 x.id,.int .i64 x.from,.int .i64 x.to,.int .i64 x.until_,.int .u64 x.num,.int .i64 x.min],fun _=>rfl⟩
@[simp]theorem G1c(x:PutM):putE.cells x=[.int .u64 x.id,.int .i64 x.from,.int .i64 x.to,.int .i64 x.until_,.int .u64 x.num,.int .i64 x.min]:=rfl
theorem D3n{v:Value}{xs:List PutM}{Q:Post}{s:St}(hv:putE.In s v xs)(hlen:xs.length<1000000000)(hq:∀v' S,putE.New s S v' xs->Q v' S):CC X 71 [v] Q s:=by
 refine G6t rfl ?_
 try simp -implicitDefEqProofs (disch:=first|exact dsc|fail)[hv.nil_eq A05]
 by_cases hvn:B1f v=true
 ·obtain⟨rfl,rfl⟩:=hv.of_nil hvn;simp -implicitDefEqProofs (disch:=first|exact dsc|fail)[hvn];exact hq _ _ (.nil (.refl _))
 ·have ho:Old s (s.alloc (.cells [] false)):=by simp
  simp -implicitDefEqProofs (disch:=first|exact dsc|fail)[hvn,(hv.old ho).sl.news A67];refine(Enc.Own.none_ (E:=putE) (s:=s.alloc (.cells [] false)) (b:=s.next) (o:=0) (by simp)).append (ys:=xs) (by decide) (by simp;omega) (by simp;omega) fun v' S ρ' h1 h2 h3 h4 _=>?_
  refine A0a (hq v' S ⟨ρ',by simpa using h1,⟨by simp at h2;omega,fun {b} hb=>?_⟩,fun b hb=>?_⟩)
  ·rw[h4 b (by simp;omega) (by simp),St.alloc_old hb]
  ·rcases h3 with h|⟨b1,h,hb1⟩
   ·rw[h]at hb;cases hb
   ·rw[hb]at h;cases h;simp at hb1;omega
theorem D04{v:Value}{ρ:Option Nat}{xs:List PutM}{i j:Nat}{Q:Post}{s:St}(hv:putE.Own s v ρ xs)(hlen:xs.length<1000000)(hi:i<j)(hj:j<=xs.length)
  (hq:∀v' S,putE.Own S v' ρ (xs.take i++xs.drop j)->Chg s S (Row ρ)->Q v' S):CC X 128 [v,.int .i64 i,.int .i64 j] Q s:=by
 refine F5w rfl ?_;have hI:=hv.in_;have hlen2:=hI.len (P:=P) (s':=s) A05;obtain⟨b,c,post,tl,rfl,rfl,h1,h2,h3⟩:=hv.ne (by intro e;simp[e]at hj;omega)
 have hc2:=h3.two;have hA:putE.At s b 0 xs:=⟨[],_,_,h2,rfl⟩;have hij:¬(i:Int)=j:=by omega
 have hn:=(Enc.Sl.row (c:=A2a 6 c j) (hA.drop hj)).news (P:=P) (t:=132) (bytes:=C4v) (zero:=D1p) A67;simp only[List.length_drop,Nat.zero_add]at hn
 try simp only[Nat.mul_one]at hn
 try simp -implicitDefEqProofs (disch:=first|exact dsc|fail)[hij,hn]
 have e1:(xs.take i).length=i:=by simp;omega
 have hd:=A9f (pre:=putE.row (xs.take i)) (mid:=putE.row ((xs.drop i).take (xs.length-j))) (post:=putE.row ((xs.drop i).drop (xs.length-j))++post) (xs:=putE.row (xs.drop j)) (by simp only[Enc.row_length];simp;omega)
 have hs:putE.row (xs.take i)++(putE.row ((xs.drop i).take (xs.length-j))++(putE.row ((xs.drop i).drop (xs.length-j))++post))=putE.row xs++post:=by
  rw[<-List.append_assoc (putE.row ((xs.drop i).take _)),<-Enc.row_append,List.take_append_drop,<-List.append_assoc,<-Enc.row_append,List.take_append_drop]
 rw[hs]at hd;simp only[Enc.row_length,e1]at hd
 try simp only[Nat.mul_one]at hd
 refine B81 (w:=6) h2 (by omega) (by omega) (by simp;omega) (by simp) (hc2.imp id fun h=>⟨h.1,by omega⟩) ?_
 try rw[Nat.mul_one]
 rw[hd]
 try simp -implicitDefEqProofs (disch:=first|exact dsc|fail)[]
 rw[A9m A05 B4v St.put_self (by simp;omega) (by omega) (by simp;omega) (by simp;omega) (hc2.imp id fun h=>⟨h.1,by omega⟩)]
 try simp -implicitDefEqProofs (disch:=first|exact dsc|fail)[]
 refine A9a A8v (by omega) St.put_self (by simp;omega) ?_
 try simp -implicitDefEqProofs (disch:=first|exact dsc|fail)[]
 have hz:=A9f (pre:=putE.row (xs.take i++xs.drop j)) (mid:=putE.row (xs.drop (i+(xs.length-j)))) (post:=post) (xs:=A2q (putE.cells (PutM.mk 0 0 0 0 0 0)) ((xs.length-(i+(xs.length-j)))*6)) (by simp)
 have hm3:(putE.row (xs.take i++xs.drop j)).length=(i+(xs.length-j))*6:=by simp[e1]
 rw[hm3,Enc.row_append,List.append_assoc]at hz
 try simp only[Nat.mul_one]at hz
 erw [hz]
 refine A0a (hq _ _ ?_ ⟨by simp,fun b' hne=>St.put_other (fun e=>hne (by rw[e];rfl))⟩)
 have:=Enc.Own.row (E:=putE) (s:=s.put b (.cells (putE.row (xs.take i++xs.drop j)++(A2q (putE.cells (PutM.mk 0 0 0 0 0 0)) ((xs.length-(i+(xs.length-j)))*6)++post)) tl)) (b:=b) (c:=c) (xs:=xs.take i++xs.drop j) (by simpa using h1) St.put_self
  (h3.imp id fun h=>⟨h.1,by simp;omega,by simp;omega⟩)
 simpa[e1,Enc.row_append]using this
theorem B1u{v f:Value}{xs:List PutM}{c:PutM->Bool}{Q:Post}{s:St}(hv:putE.In s v xs)(hlen:xs.length<1000000000)
  (hc:∀x∈xs,∀Q:Post,Q (.bool (c x)) s->A0u P (CC X) f [.agg (putE.cells x).toArray] Q s)
  (h1:∀i (hi:i<xs.length),(∀j (hj:j<i),c xs[j]=false)->c xs[i]=true->Q (.int .i64 i) s) (h0:(∀x∈xs,c x=false)->Q (.int .i64 (-1)) s):CC X 155 [v,f] Q s:=by
 refine F4i rfl ?_
 try simp -implicitDefEqProofs (disch:=first|exact dsc|fail)[hv.len A05]
 refine D0m fun I hI=>?_;refine up (n:=xs.length) (M:=fun i=>(∀j (hj:j<xs.length),j<i->c xs[j]=false)->∀u,I v f u (.int .i64 xs.length) (.int .i64 i) s) (fun i hi ih hn u=>?_) 0 (Nat.zero_le _) (fun j _ hj=>by omega) _
 refine hI _ _ _ _ _ _ ?_;by_cases hlt:i<xs.length
 ·try simp -implicitDefEqProofs (disch:=first|exact dsc|fail)[hlt,hv.idx,hv.agg]
  refine hc xs[i] (List.getElem_mem hlt) _ ?_
  try simp -implicitDefEqProofs (disch:=first|exact dsc|fail)[]
  by_cases hx:c xs[i]=true
  ·simp -implicitDefEqProofs (disch:=first|exact dsc|fail)[hx];exact h1 i hlt (fun j hj=>hn j (by omega) hj) hx
  ·simp -implicitDefEqProofs (disch:=first|exact dsc|fail)[hx];refine ih hlt (fun j hj hji=>?_) _;by_cases hj':j=i
   ·subst hj';simpa using hx
   ·exact hn j hj (by omega)
 ·try simp -implicitDefEqProofs (disch:=first|exact dsc|fail)[hlt]
  refine h0 (fun x hx=>?_);obtain⟨j,hj,rfl⟩:=List.getElem_of_mem hx;exact hn j hj (by omega)
theorem A8m{v f:Value}{xs:List PutM}{c:PutM->Bool}{Q:Post}{s:St}(hv:putE.In s v xs)(hlen:xs.length<1000000000)
  (hc:∀x∈xs,∀Q:Post,Q (.bool (c x)) s->A0u P (CC X) f [.agg (putE.cells x).toArray] Q s) (hq:Q (.bool (xs.any c)) s):CC X 163 [v,f] Q s:=by
 refine F0a rfl ?_
 try simp -implicitDefEqProofs (disch:=first|exact dsc|fail)[]
 refine B1u hv hlen hc (fun i hi hj hx=>?_) (fun hn=>?_)
 ·try simp -implicitDefEqProofs (disch:=first|exact dsc|fail)[]
  rwa [List.any_eq_true.2 ⟨_,List.getElem_mem hi,hx⟩]at hq
 ·try simp -implicitDefEqProofs (disch:=first|exact dsc|fail)[]
  have:xs.any c=false:=by rw[List.any_eq_false];exact fun x hx=>by simp[hn x hx]
  rwa [this]at hq
def A7r(s:St)(o:Nat->Nat)(c b:Nat)(L:List PutM):Prop:=∃v ρ,Blk s b [v]/\putE.Own s v ρ L/\ρ≠some b/\L.length<=64/\o b=c/\∀r,ρ=some r->o r=c
def C0h(n:Int):Bool:=decide (0<=n)&&decide (n<=1073741824)
def C1u(id a b u:Int):Bool:=!decide (id=0)&&C0h a&&C0h b&&C0h u&&decide (a<=b)
def bAdd(L:List PutM)(id a b u num min:Int):Int×List PutM:=
 if !C1u id a b u||!C0h min then(2,L)else if u<=min then(7,L)else if L.any (fun p=>decide (p.id=id))then(5,L)
 else if L.any (fun p=>decide (num<=p.num)||decide (min<p.min))then(15,L)else if 64<=L.length then(6,L)else(0,L++[⟨id,a,b,u,num,min⟩])
def B3a:List PutM->Int->List PutM
 | [],_=>[]
 | p::r,id=>if p.id=id then r else p::B3a r id
section
variable {s : St} {o : Nat → Nat} {c b : Nat} {L : List PutM} {Q : Post}
theorem A7r.fd{S:St}{o':Nat->Nat}{d:Nat->Prop}(h:A7r s o c b L)(g:Fd s S o o' d)(hd:¬d c):A7r S o' c b L:=by
 obtain⟨v,ρ,h1,h2,h3,h4,h5,h6⟩:=h;have hl:∀r,ρ=some r->r<s.next:=fun r hr=>by subst hr;exact h2.lt
 refine⟨v,ρ,h1.fd g (by rw[h5];exact hd),h2.same g.chg.le (fun r hr=>g.chg.eq (hl r hr) (by rw[h6 r hr];exact hd)),h3,h4,(g.col h1.lt).trans h5,fun r hr=>(g.col (hl r hr)).trans (h6 r hr)⟩
theorem A9z{n:Int}(hq:Q (.bool (C0h n)) s):CC X 248 [.int .i64 n] Q s:=by
 refine E9y rfl ?_;unfold C0h at hq;by_cases h:0<=n
 ·try simp -implicitDefEqProofs (disch:=first|exact dsc|fail)[h]
  simpa[h]using hq
 ·try simp -implicitDefEqProofs (disch:=first|exact dsc|fail)[h]
  simpa[h]using hq
theorem D4o(a b c d e:Bool):binV P .eql 318 (.agg #[.bool a,.bool b,.bool c,.bool d,.bool e]) (.agg #[.bool true,.bool true,.bool true,.bool true,.bool true])=some (.bool ((a==true)&&((b==true)&&((c==true)&&((d==true)&&((e==true)&&true)))))):=by kernel_rfl
theorem C5e{id a b u:Int}(hq:Q (.bool (C1u id a b u)) s):CC X 247 [.agg #[.int .u64 id,.int .i64 a,.int .i64 b,.int .i64 u]] Q s:=by
 refine F2a rfl ?_
 try simp -implicitDefEqProofs (disch:=first|exact dsc|fail)[]
 refine A9z ?_
 try simp -implicitDefEqProofs (disch:=first|exact dsc|fail)[]
 refine A9z ?_
 try simp -implicitDefEqProofs (disch:=first|exact dsc|fail)[]
 refine A9z ?_
 try simp -implicitDefEqProofs (disch:=first|exact dsc|fail)[show rep 5 (Value.bool false)=[.bool false,.bool false,.bool false,.bool false,.bool false]from rfl,D4o]
 unfold C1u at hq;simp only[Bool.and_assoc]at hq;exact A0b (by simp) (.bool _) hq
theorem B6y{id:Int}(h:A7r s o c b L)(h1:∀i (hi:i<L.length),L[i].id=id->(∀j (hj:j<i),L[j].id≠id)->Q (.int .i64 i) s)(h0:(∀p∈L,p.id≠id)->Q (.int .i64 (-1)) s):CC X 127 [.pointer (some ⟨b,0,none⟩),.int .u64 id] Q s:=by
 refine E9x rfl ?_;obtain⟨v,ρ,hb,ho,g1,g2,g3,g4⟩:=h;have hbl:=hb.lt
 try simp -implicitDefEqProofs (disch:=first|exact dsc|fail)[hb.eq,mkFn,Value.oneCell']
 refine B1u (c:=fun p=>decide (p.id=id)) ((ho.in_).old (by simp)) (by omega) (fun x hx Q hQ=>?_) (fun i hi hj he=>?_) (fun hn=>?_)
 ·try simp -implicitDefEqProofs (disch:=first|exact dsc|fail)[]
  refine E9d rfl ?_
  try simp -implicitDefEqProofs (disch:=first|exact dsc|fail)[]
  exact A0b (by simp) (.bool _) hQ
 ·try simp -implicitDefEqProofs (disch:=first|exact dsc|fail)[]
  exact A0b (by simp) (.int _ _) (h1 i hi (by simpa using he) (fun j hji=>by simpa using hj j hji))
 ·try simp -implicitDefEqProofs (disch:=first|exact dsc|fail)[]
  exact A0b (by simp) (.int _ _) (h0 (fun p hp=>by simpa using hn p hp))
theorem B9t:∀{L:List PutM} {id:Int} {i:Nat} (hi:i<L.length),L[i].id=id->(∀j (hj:j<i),L[j].id≠id)->B3a L id=L.take i++L.drop (i+1)
 | p::r,id,0,_,h,_=>by simp at h;simp[B3a,h]
 | p::r,id,i+1,hi,h,hn=>by
  have h0:=hn 0 (by omega)
  simp at h0;rw[B3a,if_neg h0,B9t (by simpa using hi) (by simpa using h) (fun j hj=>by simpa using hn (j+1) (by omega))]
  simp
theorem B73{id:Int}(h:A7r s o c b L)(hq:∀S,A7r S o c b (B3a L id)->Fd s S o o (·=c)->Q (.int .i64 (if L.any (fun p=>decide (p.id=id))then 0 else 4)) S):CC X 94 [.pointer (some ⟨b,0,none⟩),.int .u64 id] Q s:=by
 refine G5b rfl ?_
 try simp -implicitDefEqProofs (disch:=first|exact dsc|fail)[A0j A4w]
 have hB:=h;obtain⟨v,ρ,hb,ho,g1,g2,g3,g4⟩:=h;refine B6y hB (fun i hi he hj=>?_) (fun hn=>?_)
 ·try simp -implicitDefEqProofs (disch:=first|exact dsc|fail)[hb.eq]
  refine D04 (i:=i) (j:=i+1) ho (by omega) (by omega) (by omega) fun v' S h1 h2=>?_
  have hbS:=hb.chg h2 (fun e=>g1 e)
  try simp -implicitDefEqProofs (disch:=first|exact dsc|fail)[hbS.eq,h1.in_.data]
  rw[<-B9t hi he hj]at h1;have hany:L.any (fun p=>decide (p.id=id))=true:=List.any_eq_true.2 ⟨_,List.getElem_mem hi,by simpa using he⟩
  rw[hany,if_pos rfl]at hq;have hll:(B3a L id).length<=64:=by rw[B9t hi he hj];simp;omega
  exact A0a (hq _ ⟨v',ρ,⟨by simpa using hbS.lt,by simp⟩,h1.same (by simp) (fun r hr=>St.put_other (fun e=>g1 (by rw[hr,e]))),g1,hll,g3,g4⟩
   ⟨((h2.mono (N:=fun r=>o r=c) (fun r hr=>g4 r hr)).trans (u:=S.put b (.cells [v'] false)) (N:=fun r=>r=b) ⟨by simp,fun _ hr=>St.put_other hr⟩ (fun r hr=>.inl (by rw[hr];exact g3))),fun _=>rfl⟩)
 ·try simp -implicitDefEqProofs (disch:=first|exact dsc|fail)[]
  have hany:L.any (fun p=>decide (p.id=id))=false:=List.any_eq_false.2 fun p hp=>by simpa using hn p hp
  have hl:B3a L id=L:=by
   clear hq hB g2 ho hany;induction L with
   | nil=>rfl
   | cons p r ih=>rw[B3a,if_neg (hn p (by simp)),ih (fun q hq=>hn q (by simp[hq]))]
  rw[hany,hl]at hq;exact hq s hB .refl
theorem D4a(hq:∀b S,s.next<=b->Old s S->Blk S b [.slice none 0 0]->Q (.pointer (some ⟨b,0,none⟩)) S):CC X 51 [] Q s:=by
 refine G5d rfl ?_
 try simp -implicitDefEqProofs (disch:=first|exact dsc|fail)[]
 exact A0a (hq s.next _ (Nat.le_refl _) (by simp) ⟨by simp,by simp⟩)
theorem B02(h:A7r s o c b L)(hq:∀b' v ρ S,s.next<=b'->Old s S->Blk S b' [v]->putE.Own S v ρ L->ρ≠some b'->(∀r,ρ=some r->s.next<=r)->Q (.pointer (some ⟨b',0,none⟩)) S):CC X 40 [.pointer (some ⟨b,0,none⟩)] Q s:=by
 refine H0r rfl ?_;obtain⟨v,ρ,hb,ho,g1,g2,g3,g4⟩:=h
 try simp -implicitDefEqProofs (disch:=first|exact dsc|fail)[A0j A4w,hb.eq]
 refine D3n ho.in_ (by omega) fun v' S hn=>?_
 obtain⟨ρ',h1,h2,h3⟩:=hn
 try simp -implicitDefEqProofs (disch:=first|exact dsc|fail)[h1.in_.data]
 exact A0a (hq S.next v' ρ' _ h2.le (h2.trans (by simp)) ⟨by simp,by simp⟩ (h1.same (by simp) (fun r hr=>St.alloc_old (by subst hr;exact h1.lt))) (fun e=>by subst e;have:=h1.lt;omega) h3)
theorem B1x(hq:∀bx S,Blk S bx [.pointer (some ⟨b,0,none⟩)]->Old s S->s.next<=bx->Q (.func (.func 64) #[] #[.pointer (some ⟨bx,0,none⟩)]) S):CC X 31 [.pointer (some ⟨b,0,none⟩)] Q s:=by
 refine G5k rfl ?_
 try simp -implicitDefEqProofs (disch:=first|exact dsc|fail)[mkFn,Value.oneCell']
 exact A0a (hq s.next _ ⟨by simp,by simp⟩ (by simp) (Nat.le_refl _))
def putV(p:PutM):Value:=.agg #[.int .u64 p.id,.int .i64 p.from,.int .i64 p.to,.int .i64 p.until_,.int .u64 p.num,.int .i64 p.min]
theorem D0f{bx y n0:Nat}{v:Value}{J:Nat->(Nat->Prop)->St->Prop}{D:(Nat->Prop)->St->Prop}{M0:Nat->Prop}(hb:s.heap b=some (.cells [v] false))(hx:s.heap bx=some (.cells [.pointer (some ⟨b,0,none⟩)] false))(hv:∀i M S,J i M S->putE.In S v L)(hlen:L.length<=64)(hL:∀i,B14 n0 (J i))(hn:∀i M S,J i M S->n0<=S.next)
  (hr:∀i (hi:i<L.length),B6u (CC X) y n0 [putV L[i]] (J i) (J (i+1)) D) (h0:J 0 M0 s)
  (hq:∀M S,J L.length M S->Q (.tuple #[]) S) (hqD:∀M S,D M S->Q (.tuple #[]) S) :
  CC X 64 [.func (.yield y) #[] #[],.pointer (some ⟨bx,0,none⟩)] Q s:=by
 refine G4r rfl ?_;have hI:=hv 0 M0 s h0
 try simp -implicitDefEqProofs (disch:=first|exact dsc|fail)[hx,A0j A4w,hb,hI.len A05]
 refine D7b fun I hI'=>?_;refine up (n:=L.length) (M:=fun i=>∀M S,J i M S->I (.func (.yield y) #[] #[]) v (.int .i64 L.length) (.int .i64 i) S) (fun i hi ih M S hJ=>?_) 0 (Nat.zero_le _) M0 s h0;refine hI' _ _ _ _ _ ?_;have hV:=hv i M S hJ;by_cases hlt:i<L.length
 ·try simp -implicitDefEqProofs (disch:=first|exact dsc|fail)[hlt,hV.idx,hV.agg]
  have hJ':∀x,J i M (S.alloc x):=fun x=>(hL i).st hJ (by simp) (fun r hr=>St.alloc_old (hr.elim (fun h=>Nat.lt_of_lt_of_le h (hn i M S hJ)) (fun h=>((hL i).lt hJ h).2)))
  refine⟨rfl,rfl,hr i hlt M _ _ (hJ' _) (fun M' S3 hJ3 hK=>?_) (fun M' S3 hD hK=>?_)⟩
  ·try simp -implicitDefEqProofs (disch:=first|exact dsc|fail)[]
   exact ih hlt M' S3 hJ3
  ·try simp -implicitDefEqProofs (disch:=first|exact dsc|fail)[]
   exact A0a (hqD M' S3 hD)
 ·try simp -implicitDefEqProofs (disch:=first|exact dsc|fail)[hlt]
  have:i=L.length:=by omega
  subst this;exact A0a (hq M S hJ)
theorem B99{s1:St}{bx:Nat}{L1:List Value}{ps:Array Tmp}{ag bd:Code}{K:A0l}{A:Fr}{cc:Nat->Prop}{R:Nat->(Nat->Prop)->St->Prop}{B:PutM->Post->St->Prop}(h:A7r s1 o c b L)(hx:Blk s1 bx [.pointer (some ⟨b,0,none⟩)])(hcf:∀r,o r=c->¬cc r)
  (hR:∀i,Stab s1.next (R i)) (hY:∀(p:PutM) Q s',s1.next<s'.next->s'.heap s1.next=some (.loop L1 ps ag bd .ready none)->(s'.heap s1.next=some (.loop L1 ps ag bd .ready none)/\B p Q (s'.put s1.next (.loop L1 ps ag bd .busy none)))->CC X (tok s1.next) [putV p] Q s')
  (hB:∀i (hi:i<L.length),Body s1 (.loop L1 ps ag bd .busy none) (.loop L1 ps ag bd .ready none) cc (R i) (R (i+1)) (B L[i]))
  (h0:R 0 (fun _=>False) s1) (hk:∀M S,R L.length M S->Chg s1 S cc->(∀b,M b->s1.next<b/\b<S.next)->K .normal A S) :
  A96 P (CC X) (.func (.func 64) #[] #[.pointer (some ⟨bx,0,none⟩)]) s1.next (fun _ s'=>rfK s1.next K A s') (s1.alloc (.loop L1 ps ag bd .ready none)):=by
 obtain⟨v,ρ,hb,ho,g1,g2,g3,g4⟩:=h;have hbl:=hb.lt;have hxl:=hx.lt;refine⟨rfl,by simp,?_⟩
 refine D0f (b:=b) (v:=v) (L:=L) (n0:=s1.next+1) (J:=fun i=>JX s1 (.loop L1 ps ag bd .ready none) cc (R i)) (D:=fun _ _=>False) (by rw[St.alloc_old hbl];exact hb.eq) (by rw[St.alloc_old hxl];exact hx.eq) (fun i M S hJ=>?_) g2 (fun i=>JX.looper (hR i)) (fun i M S hJ=>hJ.le) (fun i hi=>JX.round (hR i) (hR (i+1)) (hY L[i]) (hB i hi)) (JX.start (hR 0) h0) (fun M S hJ=>hJ.done (hR L.length) (hk M)) (fun M S h=>h.elim)
 exact(ho.same (Nat.le_of_lt hJ.le) (fun r hr=>hJ.eq r (by subst hr;exact ho.lt) (hcf r (g4 r hr)))).in_
end
section
variable {s : St} {o : Nat → Nat} {c b : Nat} {L : List PutM} {Q : Post}
def B6e(min now:Int)(p:PutM):Bool:=decide (p.from<=min)&&decide (min<=p.to)&&decide (p.min<=now)&&decide (now<p.until_)
theorem C9n{min now:Int}(h:A7r s o c b L)(hq:∀v S,putE.New s S v (L.filter (B6e min now))->Q v S):CC X 164 [.pointer (some ⟨b,0,none⟩),.int .i64 min,.int .i64 now] Q s:=by
 refine F3u rfl ?_
 try simp -implicitDefEqProofs (disch:=first|exact dsc|fail)[]
 refine B1x fun bx S hbx ho hbn=>?_
 try simp -implicitDefEqProofs (disch:=first|exact dsc|fail)[]
 refine B6a fun hY=>?_;have hn:=ho.le;simp only[St.alloc_next]at hn hbn;have oS:Old s S:=(((Old.refl s).alloc (x:=.cells [.int .i64 min] false)).alloc (x:=.cells [.int .i64 now] false)).alloc (x:=.cells [.slice none 0 0] false) |>.trans ho;have hF:A7r S (tint o s.next (c+1)) c b L:=h.fd (oS.tint (c:=fun _=>False)) id
 have hlen:L.length<=64:=let ⟨_,_,_,_,_,g,_⟩:=h;g;have hb1:S.heap s.next=some (.cells [.int .i64 min] false):=(ho.eq (by simp only[St.alloc_next];omega)).trans ((St.alloc_old (by simp only[St.alloc_next];omega)).trans ((St.alloc_old (by simp only[St.alloc_next];omega)).trans St.alloc_self))
 have hb2:S.heap (s.next+1)=some (.cells [.int .i64 now] false):=(ho.eq (by simp only[St.alloc_next];omega)).trans ((St.alloc_old (by simp only[St.alloc_next];omega)).trans St.alloc_self)
 have hb3:S.heap (s.next+1+1)=some (.cells [.slice none 0 0] false):=(ho.eq (by simp only[St.alloc_next];omega)).trans St.alloc_self
 refine B99 (B:=fun p Q S'=>B0u (CC X) Q S.next (A5t (.pointer (some ⟨s.next,0,none⟩)) (.pointer (some ⟨s.next+1,0,none⟩)) (.pointer (some ⟨s.next+1+1,0,none⟩))) (.pointer (some ⟨s.next,0,none⟩)) (.pointer (some ⟨s.next+1,0,none⟩)) (.pointer (some ⟨s.next+1+1,0,none⟩)) (.pointer (some ⟨S'.next,0,none⟩)) (S'.alloc (.cells (putE.cells p) false))) (cc:=(·=s.next+1+1)) (R:=fun i=>Coll putE (s.next+1+1) (fun xs=>xs=(L.take i).filter (B6e min now))) hF hbx (fun r hr=>?_) (fun i=>Coll.stab (by omega)) (fun p Q s' hlt h1 h2=>hY _ _ _ h1 ?_) (fun i hi M S2 Q2 hR hch hyn hM hgo=>?_) (Coll.start hb3 (by simp)) (fun M S2 hR hch hM=>?_)
 ·intro e;rw[e,A0d (by omega)]at hr
  omega
 ·simp -implicitDefEqProofs [-B0u,putV];rw[St.alloc_put hlt];exact⟨(St.alloc_old hlt).trans h1,h2.2⟩
 ·obtain⟨v,ρ,xs,h1,h2,rfl,rfl⟩:=hR;have c1:=(hch.eq (b:=s.next) (by omega) (by omega)).trans hb1
  have c2:=(hch.eq (b:=s.next+1) (by omega) (by omega)).trans hb2
  have htk:L.take (i+1)=L.take i++[L[i]]:=(List.take_append_getElem hi).symm;have hal:∀(S':AObj) (Q:St->Prop),((S2.alloc (.cells (putE.cells L[i]) false)).heap S.next=some (.loop (A5t (.pointer (some ⟨s.next,0,none⟩)) (.pointer (some ⟨s.next+1,0,none⟩)) (.pointer (some ⟨s.next+1+1,0,none⟩))) A2n A18 A17 .busy none)/\Q ((S2.alloc (.cells (putE.cells L[i]) false)).put S.next S'))->S2.heap S.next=some (.loop (A5t (.pointer (some ⟨s.next,0,none⟩)) (.pointer (some ⟨s.next+1,0,none⟩)) (.pointer (some ⟨s.next+1+1,0,none⟩))) A2n A18 A17 .busy none)/\Q ((S2.put S.next S').alloc (.cells (putE.cells L[i]) false)):=fun S' Q h=>by rwa [St.alloc_old hyn,St.alloc_put hyn]at h
  have hxl:((L.take i).filter (B6e min now)).length<=64:=Nat.le_trans (List.length_filter_le _ _) (by simp;omega)
  have hno:=fun(hf:B6e min now L[i]=false)=>hal _ (Q2 (.bool true)) (hgo (Row ρ) _ ⟨v,ρ,_,(St.alloc_old (by omega)).trans h1,h2.same (by simp) (fun r hr=>St.alloc_old (hM r hr).2),rfl,by rw[htk,List.filter_append];simp[hf]⟩ ((Old.refl S2).alloc.chg) (fun r hr=>.inl hr))
  simp only[B6e]at hno;by_cases a1:L[i].from<=min
  ·by_cases a2:min<=L[i].to
   ·by_cases a3:L[i].min<=now
    ·by_cases a4:now<L[i].until_
     ·try simp -implicitDefEqProofs (disch:=first|exact dsc|fail)[a1,a2,a3,a4,c1,c2,h1]
      refine(h2.same (s':=S2.alloc (.cells (putE.cells L[i]) false)) (by simp) (fun r hr=>St.alloc_old (hM r hr).2)).push (a:=L[i]) A8v A67 (by rfl) (by rfl) (by omega) (by omega) fun v' S3 ρ' w1 w2 w3=>?_
      have hb33:S3.heap (s.next+1+1)=some (.cells [v] false):=by
       rw[w2.eq (by simp;omega) (fun e=>by have:=hM _ e;omega),St.alloc_old (by omega)];exact h1
      try simp -implicitDefEqProofs (disch:=first|exact dsc|fail)[hb33,w1.in_.data]
      have hst:=Coll.step (p:=fun xs=>xs=(L.take (i+1)).filter (B6e min now)) (c:=(·=s.next+1+1)) (y:=S.next) (by omega) rfl (by simp;omega) (fun r hr=>by have:=hM r hr;simp;omega) w1 w2 w3 (by rw[htk,List.filter_append];simp[B6e,a1,a2,a3,a4])
      obtain⟨g1,g2⟩:=hgo _ _ hst.1 (((Old.refl S2).alloc.chg).trans hst.2.1 (fun r hr=>.inl hr)) (fun r hr=>(hst.2.2 r hr).imp id (fun h=>⟨by have:=h.1;simp at this;omega,h.2⟩))
      rw[St.put_other (by omega)]at g1
      exact⟨g1,g2⟩
     ·try simp -implicitDefEqProofs (disch:=first|exact dsc|fail)[a1,a2,a3,a4,c1,c2]
      simpa using hno (by simp[a4])
    ·try simp -implicitDefEqProofs (disch:=first|exact dsc|fail)[a1,a2,a3,c1,c2]
     simpa using hno (by simp[a3])
   ·try simp -implicitDefEqProofs (disch:=first|exact dsc|fail)[a1,a2,c1,c2]
    simpa using hno (by simp[a2])
  ·try simp -implicitDefEqProofs (disch:=first|exact dsc|fail)[a1,c1,c2]
   simpa using hno (by simp[a1])
 ·obtain⟨v,ρ,xs,h1,h2,rfl,h3⟩:=hR
  try simp -implicitDefEqProofs (disch:=first|exact dsc|fail)[h1]
  rw[List.take_of_length_le (Nat.le_refl _)]at h3;subst h3;exact A0a (hq v S2 ⟨ρ,h2,oS.trans_chg hch (fun r hr e=>by omega),fun r hr=>by have:=hM r hr;omega⟩)
end
section
variable {s : St} {o : Nat → Nat} {c b : Nat} {L : List PutM} {Q : Post}
theorem D9a{id a d u num min:Int}(h:A7r s o c b L)(hq:∀S o',A7r S o' c b (bAdd L id a d u num min).2->Fd s S o o' (·=c)->Q (.int .i64 (bAdd L id a d u num min).1) S) :
  CC X 241 [.pointer (some ⟨b,0,none⟩),.agg #[.int .u64 id,.int .i64 a,.int .i64 d,.int .i64 u],.int .u64 num,.int .i64 min] Q s:=by
 refine F65 rfl ?_;have hbad:∀e,(bAdd L id a d u num min)=(e,L)->Q (.int .i64 e) s:=fun e he=>by
  have:=hq s o (by rw[he];exact h) .refl
  rwa [he]at this
 generalize hs1:((s.alloc (.cells [.int .u64 id,.int .i64 a,.int .i64 d,.int .i64 u] false)).alloc (.cells [.int .u64 num] false)).alloc (.cells [.int .i64 min] false)=s1;have o1:Old s s1:=by subst hs1;exact((Old.refl s).alloc.alloc).alloc
 have n1:s1.next=s.next+1+1+1:=by subst hs1;simp
 have b1:s1.heap s.next=some (.cells [.int .u64 id,.int .i64 a,.int .i64 d,.int .i64 u] false):=by
  subst hs1;exact(St.alloc_old (by simp only[St.alloc_next];omega)).trans ((St.alloc_old (by simp only[St.alloc_next];omega)).trans St.alloc_self)
 have b2:s1.heap (s.next+1)=some (.cells [.int .u64 num] false):=by
  subst hs1;exact(St.alloc_old (by simp only[St.alloc_next];omega)).trans St.alloc_self
 have b3:s1.heap (s.next+1+1)=some (.cells [.int .i64 min] false):=by
  subst hs1;exact St.alloc_self
 have hbad1:∀e,(bAdd L id a d u num min)=(e,L)->kEnd Q s (some (.int .i64 e)) s1:=fun e he=>A0b o1 (.int _ _) (hbad e he)
 try simp -implicitDefEqProofs (disch:=first|exact dsc|fail)[hs1,b1,b2,b3,A0j A4w]
 refine C5e ?_;by_cases g1:C1u id a d u=true
 ·try simp -implicitDefEqProofs (disch:=first|exact dsc|fail)[g1,b1,b2,b3]
  refine A9z ?_;by_cases g2:C0h min=true
  ·have hm:0<=min/\min<=1073741824:=by simpa[C0h]using g2
   by_cases g3:u<=min
   ·try simp -implicitDefEqProofs (disch:=first|exact dsc|fail)[g1,g2,g3,b1,b2,b3]
    exact hbad1 7 (by simp[bAdd,g1,g2,g3])
   ·try simp -implicitDefEqProofs (disch:=first|exact dsc|fail)[g1,g2,g3,b1,b2,b3]
    have h1:A7r s1 (tint o s.next c) c b L:=h.fd (o1.tint (c:=fun _=>False)) (fun h=>h)
    refine B6y h1 (fun i hi he hj=>?_) (fun hn=>?_)
    ·try simp -implicitDefEqProofs (disch:=first|exact dsc|fail)[]
     have hany:L.any (fun p=>decide (p.id=id))=true:=List.any_eq_true.2 ⟨_,List.getElem_mem hi,by simpa using he⟩
     exact hbad1 5 (by simp only[bAdd];rw[if_neg (by simp[g1,g2]),if_neg g3,if_pos hany])
    ·have hany:¬L.any (fun p=>decide (p.id=id))=true:=by
      rw[List.any_eq_true];rintro⟨p,hp,e⟩;exact hn p hp (by simpa using e)
     have h1':=h1;obtain⟨v,ρ,hb,ho,k1,k2,k3,k4⟩:=h1
     try simp -implicitDefEqProofs (disch:=first|exact dsc|fail)[hb.eq,mkFn,Value.oneCell']
     refine A8m (c:=fun p=>decide (num<=p.num)||decide (min<p.min)) ho.in_ (by omega) (fun x hx Q hQ=>?_) ?_
     ·try simp -implicitDefEqProofs (disch:=first|exact dsc|fail)[]
      refine F4j rfl ?_;by_cases q1:num<=x.num
      ·try simp -implicitDefEqProofs (disch:=first|exact dsc|fail)[b2,b3,q1]
       exact A0b (by simp) (.bool _) (by simpa[q1]using hQ)
      ·try simp -implicitDefEqProofs (disch:=first|exact dsc|fail)[b2,b3,q1]
       exact A0b (by simp) (.bool _) (by simpa[q1]using hQ)
     ·by_cases g4:L.any (fun p=>decide (num<=p.num)||decide (min<p.min))=true
      ·try simp -implicitDefEqProofs (disch:=first|exact dsc|fail)[g4]
       exact hbad1 15 (by simp only[bAdd];rw[if_neg (by simp[g1,g2]),if_neg g3,if_neg hany,if_pos g4])
      ·have hI:=ho.in_;by_cases g5:(64:Int)<=L.length
       ·try simp -implicitDefEqProofs (disch:=first|exact dsc|fail)[g4,hb.eq,hI.len A05,g5]
        exact hbad1 6 (by simp only[bAdd];rw[if_neg (by simp[g1,g2]),if_neg g3,if_neg hany,if_neg g4,if_pos (by omega)])
       ·try simp -implicitDefEqProofs (disch:=first|exact dsc|fail)[g4,hb.eq,hI.len A05,g5,b1,b2,b3]
        have hbn:=hb.lt;refine ho.pushC (a:=⟨id,a,d,u,num,min⟩) A8v A67 (by rfl) (by rfl) (by omega) (by omega) ?_ fun v' S3 ρ' w1 w2 w3=>?_
        ·try simp -implicitDefEqProofs (disch:=first|exact dsc|fail)[hb.eq]
        have hbS:=hb.chg w2 (fun e=>k1 e)
        try simp -implicitDefEqProofs (disch:=first|exact dsc|fail)[hbS.eq,w1.in_.data]
        have he:bAdd L id a d u num min=(0,L++[⟨id,a,d,u,num,min⟩]):=by simp only[bAdd];rw[if_neg (by simp[g1,g2]),if_neg g3,if_neg hany,if_neg g4,if_neg (by omega)]
        have hne:ρ'≠some b:=fun e=>(w3 b e).elim (fun e=>k1 e) (fun e=>by omega)
        have hf1:Fd s S3 o (tint (tint o s.next c) s1.next c) (·=c):=(o1.tint (k:=c)).trans (w2.tint (fun r _ hr=>k4 r hr))
        have hf2:Fd s (S3.put b (.cells [v'] false)) o (tint (tint o s.next c) s1.next c) (·=c):=hf1.trans ⟨⟨by simp,fun hr hn=>St.put_other (fun e=>hn (by rw[e,A7c hbn];exact k3))⟩,fun _=>rfl⟩
        have hq':=hq _ _ (by
         rw[he];exact⟨v',ρ',⟨by simpa using hbS.lt,by simp⟩,w1.same (by simp) (fun r hr=>St.put_other (fun e=>hne (by rw[hr,e]))),hne,by simp;omega,(A7c hbn).trans k3,fun r hr=>(w3 r hr).elim (fun e=>(A7c (by subst e;exact ho.lt)).trans (k4 r e)) (fun e=>A0d e)⟩) hf2
        rw[he]at hq';exact A0a hq'
  ·try simp -implicitDefEqProofs (disch:=first|exact dsc|fail)[g2]
   exact hbad1 2 (by simp[bAdd,g2])
 ·try simp -implicitDefEqProofs (disch:=first|exact dsc|fail)[g1]
  exact hbad1 2 (by simp[bAdd,g1])
end
end Go.Zz
