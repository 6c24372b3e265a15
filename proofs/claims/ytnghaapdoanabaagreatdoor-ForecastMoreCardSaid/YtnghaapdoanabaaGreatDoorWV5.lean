import Derived.Test.YtnghaapdoanabaaGreatDoorWV1
set_option linter.all false
set_option maxRecDepth 20000
set_option linter.all false
namespace Go.Zz
open Go
noncomputable section
variable (C:cT)(K:kT)(Q:pT)(s0:St)(a b c d e f g h i j l m n o p q r t u v w x y z A B D E F G H J M N O R T U V W X Y Z a0 a1 a2 a3 a4 a5 a6 a7 a8 a9 b0 b1 b2 b3 b4 b5 b6 b7 b8 b9:vT)(s:St)
@[simp]def f7xS(C:cT)(Q:pT)(a b c d:vT)(s0:St):Prop:=(cf C 9 [a,b] fun e=>cf C 10 [] fun f=>bM f fun g=>wJf g e fun h=>wOf g (binV P .eql 25 h (.pointer none)) fun i=>bQ g i fun j=>cw j (cf C 10 [] fun l=>r1 Q s0 l) (cf C 13 [e] fun m=>cf C 17 [e] fun n=>cf C 20 [e] fun o=>bH 34 o fun p=>cf C 13 [e] fun q=>cf C 12 [e,q] fun r=>bH 34 r fun t=>bR 5 3 c fun u=>bR 5 3 d fun v=>bV .add 3 (.int .i64 1) v fun w=>cf C 13 [e] fun x=>bR 5 3 d fun y=>bV .add 3 (.int .i64 1) y fun z=>bV .mul 3 (.int .i64 5) z fun A=>bV .add 3 x A fun B=>cf C 18 [e,u,w,B] fun D=>bE D 0 fun E=>bE D 1 fun F=>bR 5 3 c fun G=>bR 5 3 d fun H=>bV .add 3 (.int .i64 1) H fun J=>cf C 13 [e] fun M=>bR 5 3 d fun N=>bV .add 3 (.int .i64 1) N fun O=>bV .mul 3 (.int .i64 5) O fun R=>bV .add 3 M R fun T=>cf C 18 [e,G,J,T] fun U=>bE U 0 fun V=>bE U 1 fun W=>cf C 19 [e] fun _=>bV .eql 3 E V fun X=>wJt X F fun Y=>wJt X W fun Z=>wVt X .eql 4 Y Z fun a0=>bP X a0 fun a1=>wJt a1 e fun a2=>wt a1 (fun k s=>A0u P C (fv 13) [a2] k s) fun a3=>wJt a1 m fun a4=>wVt a1 .eql 3 a3 a4 fun a5=>bP a1 a5 fun a6=>wJt a6 e fun a7=>wt a6 (fun k s=>A0u P C (fv 17) [a7] k s) fun a8=>wJt a6 n fun a9=>wVt a6 .eql 43 a8 a9 fun b0=>bP a6 b0 fun b1=>wJt b1 e fun b2=>wt b1 (fun k s=>A0u P C (fv 20) [b2] k s) fun b3=>wHt b1 34 b3 fun b4=>wJt b1 p fun b5=>wVt b1 .eql 3 b4 b5 fun b6=>bP b1 b6 fun b7=>wJt b7 e fun b8=>wJt b7 e fun b9=>wt b7 (fun k s=>A0u P C (fv 13) [b9] k s) fun c0=>wt b7 (fun k s=>A0u P C (fv 12) [b8,c0] k s) fun c1=>wHt b7 34 c1 fun c2=>wJt b7 t fun c3=>wVt b7 .eql 3 c2 c3 fun c4=>bP b7 c4 fun c5=>r1 Q s0 c5)) s0
def f7xin:=en4 7 f7xS
end
variable {X : Y0}
theorem D3i(a b:Bool):binV P .eql 4 (.bool a) (.bool b)=some (.bool (a==b)):=by cases a<;>cases b<;>kernel_rfl
theorem E1g{M:A02}{xs ys:List Int}(h:xs.Pairwise (·<·))(g:ys.Pairwise (·<·))(h1:∀n,n∈xs↔(M.C n).isSome=true)(g1:∀n,n∈ys↔(M.C n).isSome=true):xs.length=ys.length:=by
 exact Nat.le_antisymm (A38 (h.imp (fun h=>by omega)) (fun n hn=>(g1 n).2 ((h1 n).1 hn))) (A38 (g.imp (fun h=>by omega)) (fun n hn=>(h1 n).2 ((g1 n).1 hn)))
theorem B44{k:Nat}(h:in2 7 k):¬inC 1 k:=by unfold in2 inC at *;omega
theorem C2s:¬in2 7 0:=by unfold in2;omega
theorem D4j{k:Nat}(h:inC 1 k):k≠0:=by unfold inC at h;omega
theorem B62{k:Nat}(h:in2 7 k):k≠0:=by unfold in2 at h;omega
theorem Still_spec{s:St}{Q:Post}{v w:Value}{rs:List RuleM}{l:List StepM}{most every:Int}(hm:0<=most/\most<256)(he:0<=every/\every<256)(hK:A2z s (fun _=>0))(hv:A3m.In s v rs)(hw:A3x.In s w l)(ha:∀x∈l,0<=x.a)
  (hq:Q (.bool true) s):CC X 7 [v,w,.int .u8 most,.int .u8 every] Q s:=by
 have hp0:¬inC 1 0:=by unfold inC;omega
 refine f7xin rfl ?_
 try simp -implicitDefEqProofs (disch:=first|exact dsc|fail)[]
 refine A77 1 (by decide) hK hv (fun S o' F=>hw.old (F.back hp0)) ha ?_ (fun m M S o' F hM hI ht hn hK'=>?_)
 ·try simp -implicitDefEqProofs (disch:=first|exact dsc|fail)[]
  refine A1h hK ?_
  try simp -implicitDefEqProofs (disch:=first|exact dsc|fail)[A6j]
  refine A1h hK ?_
  try simp -implicitDefEqProofs (disch:=first|exact dsc|fail)[]
  exact hq
 ·obtain⟨x,t,f,b,mc,sl,hM⟩:=hM;have oB:=F.back hp0
  try simp -implicitDefEqProofs (disch:=first|exact dsc|fail)[]
  refine A1h hK' ?_
  try simp -implicitDefEqProofs (disch:=first|exact dsc|fail)[A0j A0f]
  refine A06 hM ?_
  try simp -implicitDefEqProofs (disch:=first|exact dsc|fail)[]
  refine A9o hM ?_
  try simp -implicitDefEqProofs (disch:=first|exact dsc|fail)[]
  refine A8q hM fun vn Sn xn gn hnl hns hnm=>?_;have h1:=hM.old gn.old_;have K1:=hK'.old gn.old_;have l1:=gn.in_.len (P:=P) A0c (s':=Sn)
  try simp -implicitDefEqProofs (disch:=first|exact dsc|fail)[l1]
  refine A06 h1 ?_
  try simp -implicitDefEqProofs (disch:=first|exact dsc|fail)[]
  refine A3p h1 fun vk Sk xk gk hkl hkn hkb=>?_;have h2:=h1.old gk.old_;have K2:=K1.old gk.old_;have l2:=gk.in_.len (P:=P) A0c (s':=Sk)
  try simp -implicitDefEqProofs (disch:=first|exact dsc|fail)[l2]
  refine A06 h2 ?_;have hnow:=h2.now
  try simp -implicitDefEqProofs (disch:=first|exact dsc|fail)[]
  refine A2d (c2:=7) (r:=6) (by decide) K2 h2 hI (by omega) (by omega) (by omega) fun S3 o3 F3=>?_
  have h3:=h2.fd F3 (fun k hk=>B44 hk) C2s;have K3:=K2.fd F3 C2s
  try simp -implicitDefEqProofs (disch:=first|exact dsc|fail)[]
  refine A06 h3 ?_
  try simp -implicitDefEqProofs (disch:=first|exact dsc|fail)[]
  refine A2d (c2:=7) (r:=6) (by decide) K3 h3 hI (by omega) (by omega) (by omega) fun S4 o4 F4=>?_
  have h4:=h3.fd F4 (fun k hk=>B44 hk) C2s
  try simp -implicitDefEqProofs (disch:=first|exact dsc|fail)[]
  refine B4p h4 fun vf S5 mf o5 gf _ _ _=>?_;have h5:=h4.old o5
  try simp -implicitDefEqProofs (disch:=first|exact dsc|fail)[D3i]
  refine A06 h5 ?_
  try simp -implicitDefEqProofs (disch:=first|exact dsc|fail)[]
  refine A9o h5 ?_
  try simp -implicitDefEqProofs (disch:=first|exact dsc|fail)[]
  refine A8q h5 fun vn2 S6 xn2 gn2 hnl2 hns2 hnm2=>?_;have h6:=h5.old gn2.old_;have l6:=gn2.in_.len (P:=P) A0c (s':=S6);have e6:=E1g hns hns2 hnm hnm2
  try simp -implicitDefEqProofs (disch:=first|exact dsc|fail)[l6,e6]
  refine A06 h6 ?_
  try simp -implicitDefEqProofs (disch:=first|exact dsc|fail)[]
  refine A3p h6 fun vk2 S7 xk2 gk2 hkl2 hkn2 hkb2=>?_;have l7:=gk2.in_.len (P:=P) A0c (s':=S7);have e7:=hkn.trans hkn2.symm
  try simp -implicitDefEqProofs (disch:=first|exact dsc|fail)[l7,e7]
  have FA:Fd s S4 (fun _=>0) o4 (fun k=>k≠0):=((((F.mono fun _=>D4j).trans gn.old_.fd).trans gk.old_.fd).trans (F3.mono fun _=>B62)).trans (F4.mono fun _=>B62);exact A0b ((((FA.back (fun h=>h rfl)).trans o5).trans gn2.old_).trans gk2.old_) (.bool _) hq
end Go.Zz
