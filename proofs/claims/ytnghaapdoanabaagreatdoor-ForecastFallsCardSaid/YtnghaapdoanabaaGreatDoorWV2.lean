import Derived.Test.YtnghaapdoanabaaGreatDoorWV5
set_option linter.all false
set_option maxRecDepth 20000
set_option linter.all false
namespace Go.Zz
open Go
noncomputable section
variable (C:cT)(K:kT)(Q:pT)(s0:St)(a b c d e f g h i j l m n o p q r t u v w x y z A B D E F G H J M N O R T U V W X Y Z a0 a1 a2 a3 a4 a5 a6 a7 a8 a9 b0 b1 b2 b3 b4 b5 b6 b7 b8 b9:vT)(s:St)
def G5p:Code:=cp 3 [4,1,0]
def E12:List Value:=un 6 (a::b::c::un 19 (d::e::f::un 48 []))
@[simp]def f3xB0(C:cT)(K:kT)(I:V6)(a b c d e f:vT):oT:=bV .lss 3 f e fun g=>cw g (bI 24 d f fun h=>bL 29 h fun i=>bR 29 3 i fun j=>newW (bslN (A0e P 28) 1 #[(0,j)]) fun l=>apdW P (A0e P 28) 28 c l fun m=>bA 3 f fun n=>I a b m d e n) (K (.exit 0) (ofL (E12 a b c d e f)))
def E2j:=lp6 h3 G5p 0 E12 f3xB0 (cp 3 [4,1,0,0])
def G57:Code:=cp 3 [7,1,0]
def D40:List Value:=un 6 (a::b::c::undef::undef::d::un 37 (e::f::un 28 []))
@[simp]def f3xB1(C:cT)(K:kT)(I:V6)(a b c d e f:vT):oT:=bV .lss 3 f e fun g=>cw g (oI 30 d f fun h=>oF 33 0 h fun i=>oL 3 i fun j=>oI 28 c f fun l=>oL 3 l fun m=>oV .neq 3 j m fun n=>gJf n d fun o=>gJf n f fun p=>gIf n 30 o p fun q=>gFf n 33 1 q fun r=>gLf n 3 r fun t=>gJf n b fun u=>gJf n c fun v=>gJf n f fun w=>gIf n 28 v w fun x=>gLf n 3 x fun y=>wf n (fun k s=>A0u P C (fv 12) [u,y] k s) fun z=>ck (A1j false n) (fun s=>(A04 (tAgg P 3) r s)=some t) (oS (fun s=>gO (A1j false n) (lenR P 34 z s)) fun A=>gOf n (binV P .neq 3 t A) fun B=>oQ n B fun D=>cw D (K .ret (ofL (D40 (.bool false) b c d e f))) (bA 3 f fun E=>I a b c d e E))) (K (.exit 2) (ofL (D40 a b c d e f)))
def E2h:=lp6 h3 G57 2 D40 f3xB1 (cp 3 [7,1,0,0])
def G94:A0l:=A0h 2 (kSeq (evC P C h3 (cp 3 [8]) 0 (kB 3 Q s0)) (kB 3 Q s0))
@[simp]theorem F92:(G94 C Q s0) (.exit 2) (ofL (D40 a b c d e f)) s=r1 Q s0 (.bool true) s:=by kernel_rfl
def E6v:A0l:=A0h 0 (kSeq (evC P C h3 (cp 3 [5]) 0 (kB 3 Q s0)) (kB 3 Q s0))
@[simp]theorem F90:(E6v C Q s0) (.exit 0) (ofL (E12 a b c d e f)) s=(cf C 11 [b,c] fun g=>bH 30 g fun h=>bH 28 c fun i=>bV .neq 3 h i fun j=>cw j (r1 Q s0 (.bool false)) (bH 30 g fun l=>evC P C h3 G57 2 (G94 C Q s0) (ofL (D40 a b c g l (.int .i64 0))))) s:=by kernel_rfl
@[simp]def f3xS(C:cT)(Q:pT)(a b c:vT)(s0:St):Prop:=(cf C 9 [a,b] fun d=>cf C 10 [] fun e=>bM e fun f=>wJf f d fun g=>wOf f (binV P .eql 25 g (.pointer none)) fun h=>bQ f h fun i=>wJf i c fun j=>wHf i 24 j fun l=>wCf i .gtr 3 l 14 fun m=>bQ i m fun n=>cw n (cf C 10 [] fun o=>r1 Q s0 o) (bH 24 c fun p=>evC P C h3 G5p 0 (E6v C Q s0) (ofL (E12 (.bool false) d (.slice none 0 0) c p (.int .i64 0))))) s0
def f3xin:=en3 3 f3xS
end
variable {X : Y0}
theorem C05(a b:Int):ptE.cells (a,b)=[.int .i64 a,.int .i64 b]:=rfl
theorem KeptOf_spec{s:St}{Q:Post}{v w u:Value}{rs:List RuleM}{l:List StepM}{ms:List Int}(hK:A2z s (fun _=>0))(hv:A3m.In s v rs)(hw:A3x.In s w l)(ha:∀x∈l,0<=x.a)(hu:(intE .u16).In s u ms)(hms:∀n∈ms,0<=n/\n<65536)
  (hq:Q (.bool true) s):CC X 3 [v,w,u] Q s:=by
 have hp0:¬inC 1 0:=by unfold inC;omega
 have hul:=fun S=>hu.len (P:=P) B23 (s':=S);refine f3xin rfl ?_
 try simp -implicitDefEqProofs (disch:=first|exact dsc|fail)[]
 refine A77 1 (by decide) hK hv (fun S o' F=>hw.old (F.back hp0)) ha ?_ (fun m M S o' F hM hI ht hn hK'=>?_)
 ·try simp -implicitDefEqProofs (disch:=first|exact dsc|fail)[]
  refine A1h hK ?_
  try simp -implicitDefEqProofs (disch:=first|exact dsc|fail)[A6j]
  refine A1h hK ?_
  try simp -implicitDefEqProofs (disch:=first|exact dsc|fail)[]
  exact hq
 ·obtain⟨x,t,f,b,mc,sl,hM⟩:=hM;have oB:=F.back hp0
  try simp -implicitDefEqProofs (disch:=first|exact dsc|fail)[]
  refine A1h hK' ?_;by_cases hl:(14:Int)<ms.length
  ·try simp -implicitDefEqProofs (disch:=first|exact dsc|fail)[A0j A0f,hul,hl]
   refine A1h hK' ?_
   try simp -implicitDefEqProofs (disch:=first|exact dsc|fail)[]
   exact A0b oB (.bool _) hq
  ·try simp -implicitDefEqProofs (disch:=first|exact dsc|fail)[A0j A0f,hul,hl]
   refine E2j fun I hI=>?_;refine up (n:=ms.length) (M:=fun i=>∀S2 z,(intE .i64).New S S2 z (ms.take i)->I (.bool false) (.pointer (some ⟨m,0,none⟩)) z u (.int .i64 ms.length) (.int .i64 i) S2) (fun i hi ih S2 z hz=>?_) 0 (Nat.zero_le _) S (.slice none 0 0) (.nil (.refl _));refine hI _ _ _ _ _ _ _ ?_;have hu2:=hu.old (oB.trans hz.old_);by_cases hlt:i<ms.length
   ·have hb:=hms _ (List.getElem_mem hlt)
    try simp -implicitDefEqProofs (disch:=first|exact dsc|fail)[hlt,hu2.idx,hu2.one]
    refine hz.push (a:=ms[i]) A5v A6s (by simp) (by simp) (by simp;omega) (by simp;omega) fun v' S3 w1=>?_
    try simp -implicitDefEqProofs (disch:=first|exact dsc|fail)[]
    refine ih hlt S3 v' ?_;rw[<-List.take_append_getElem hlt];exact w1
   ·try simp -implicitDefEqProofs (disch:=first|exact dsc|fail)[hlt]
    rw[List.take_of_length_le (by omega)]at hz
    have h2:=hM.old hz.old_;have hzl:=fun S=>hz.in_.len (P:=P) A00 (s':=S);refine A9p h2 hz.in_ (by omega) fun vp S3 hp=>?_
    have h3:=h2.old hp.old_;have hz3:=hz.in_.old hp.old_;have hpl:=fun S=>hp.in_.len (P:=P) A4z (s':=S);simp only[List.length_map]at hpl
    try simp -implicitDefEqProofs (disch:=first|exact dsc|fail)[hzl,hpl]
    refine E2h fun I2 hI2=>?_;refine up (n:=ms.length) (M:=fun i=>∀S4,Old S3 S4->I2 (.bool false) (.pointer (some ⟨m,0,none⟩)) z vp (.int .i64 ms.length) (.int .i64 i) S4) (fun i hi ih S4 o4=>?_) 0 (Nat.zero_le _) S3 (.refl _);refine hI2 _ _ _ _ _ _ _ ?_;have hp4:=hp.in_.old o4;have hz4:=hz3.old o4;by_cases hlt:i<ms.length
    ·have hlt2:i<(ms.map fun t=>(t,(A45 M t:Int))).length:=by simpa using hlt
     have hb:=hms _ (List.getElem_mem hlt);have hfa:=fun {n m k:Nat} {ag:Bool}=>hp4.fa (n:=n) (m:=m) (k:=k) (ag:=ag) (by omega)
     try simp -implicitDefEqProofs (disch:=first|exact dsc|fail)[hlt,hp4.idx,hz4.idx,hz4.one,hfa,hp4.fld0 hlt2,hp4.fld hlt2,C05]
     refine A3p ((h3.old o4)) fun vk S5 xk gk hkl hkn hkb=>?_;have hp5:=hp4.old gk.old_;have lk:=gk.in_.len (P:=P) A0c (s':=S5)
     try simp -implicitDefEqProofs (disch:=first|exact dsc|fail)[lk,hkn,hp5.fld hlt2,C05]
     exact ih hlt S5 (o4.trans gk.old_)
    ·try simp -implicitDefEqProofs (disch:=first|exact dsc|fail)[hlt]
     exact A0b (((oB.trans hz.old_).trans hp.old_).trans o4) (.bool _) hq
end Go.Zz
