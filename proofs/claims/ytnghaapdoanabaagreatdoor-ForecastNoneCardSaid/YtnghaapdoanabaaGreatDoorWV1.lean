import Derived.Test.YtnghaapdoanabaaGreatDoorWU2
set_option linter.all false
set_option maxRecDepth 20000
set_option linter.all false
namespace Go.Zz
open Go
noncomputable section
variable (C:cT)(K:kT)(Q:pT)(s0:St)(a b c d e f g h i j l m n o p q r t u v w x y z A B D E F G H J M N O R T U V W X Y Z a0 a1 a2 a3 a4 a5 a6 a7 a8 a9 b0 b1 b2 b3 b4 b5 b6 b7 b8 b9:vT)(s:St)
@[simp]def E3b:oT:=bO (B3t min2 [b,(.int .i64 0)]) fun e=>cf C 18 [d,a,e,c] fun f=>bE f 0 fun g=>bE f 1 fun h=>cf C 13 [d] fun i=>bO (B3t min2 [c,i]) fun j=>cf C 18 [d,a,(.int .i64 1),j] fun l=>bE l 0 fun m=>bE l 1 fun n=>bC .eql 3 g 0 fun o=>wJt o h fun p=>wOt o (unV .not p) fun q=>bP o q fun r=>wJt r m fun t=>wCt r .eql 3 t 0 fun u=>bP r u fun v=>wJt v n fun w=>wOt v (unV .not w) fun x=>bP v x fun y=>wJt y d fun z=>wt y (fun k s=>A0u P C (fv 11) [z,(.slice none 0 0)] k s) fun A=>wHt y 30 A fun B=>wCt y .eql 3 B 0 fun D=>bP y D fun E=>r1 Q s0 E
@[simp]def C8f:oT:=cf C 9 [a,b] fun f=>bZ 25 f fun g=>cw g (r1 Q s0 (.bool true)) (E3b C Q s0 c d e f)
@[simp]def F5g:oT:=cf C 18 [(.pointer none),c,d,e] fun f=>bE f 0 fun g=>bE f 1 fun h=>bC .neq 3 g 0 fun i=>wJf i h fun j=>bQ i j fun l=>wJf l c fun m=>wJf l d fun n=>wf l (fun k s=>newW (bslN (A0e P 28) 2 #[(0,m),(1,n)]) k s) fun o=>wf l (fun k s=>A0u P C (fv 11) [(.pointer none),o] k s) fun p=>wHf l 30 p fun q=>wCf l .neq 3 q 0 fun r=>bQ l r fun t=>wf t (fun k s=>A0u P C (fv 19) [(.pointer none)] k s) fun u=>wHf t 30 u fun v=>wCf t .neq 3 v 0 fun w=>bQ t w fun x=>cw x (r1 Q s0 (.bool false)) (C8f C Q s0 a b c d e)
@[simp]def f8xS(C:cT)(Q:pT)(a b c d e:vT)(s0:St):Prop:=(cf C 10 [] fun f=>bM f fun g=>cw g (r1 Q s0 (.bool false)) (F5g C Q s0 a b c d e)) s0
def f8xin:=en5 8 f8xS
end
variable {X : Y0}
theorem F6c(a b:Int):bslN (some (3,1,8,[.int .i64 0])) 2 #[(0,.int .i64 a),(1,.int .i64 b)]=some (.cells [.int .i64 a,.int .i64 b] true,.slc 2 2):=by kernel_rfl
theorem E7v{a b:Int}:(if b<a then b else a)<=b:=by split<;>omega
theorem None_spec{s:St}{Q:Post}{v w:Value}{rs:List RuleM}{l:List StepM}{most every upto:Int}(hK:A2z s (fun _=>0))(hv:A3m.In s v rs)(hw:A3x.In s w l)(ha:∀x∈l,0<=x.a)
  (hq:Q (.bool true) s):CC X 8 [v,w,.int .i64 most,.int .i64 every,.int .i64 upto] Q s:=by
 have hp0:¬inC 1 0:=by unfold inC;omega
 refine f8xin rfl ?_
 try simp -implicitDefEqProofs (disch:=first|exact dsc|fail)[-E3b,-C8f,-F5g]
 refine A1h hK ?_
 try simp -implicitDefEqProofs (disch:=first|exact dsc|fail)[-E3b,-C8f,-F5g]
 try simp -implicitDefEqProofs (disch:=first|exact dsc|fail)[-C8f]
 refine C2g ?_
 try simp -implicitDefEqProofs (disch:=first|exact dsc|fail)[-C8f,F6c]
 refine D3j ?_
 try simp -implicitDefEqProofs (disch:=first|exact dsc|fail)[-C8f,len_nilp]
 refine C8x ?_
 try simp -implicitDefEqProofs (disch:=first|exact dsc|fail)[-E3b,len_nilp]
 have oA:Old s (s.alloc (.cells [.int .i64 most,.int .i64 every] true)):=by simp
 generalize s.alloc _=s1 at *;refine A77 1 (by decide) (hK.old oA) (hv.old oA) (fun S o' F=>(hw.old oA).old (F.back hp0)) ha ?_ (fun m M S o' F hM hI ht hn hK'=>?_)
 ·try simp -implicitDefEqProofs (disch:=first|exact dsc|fail)[A6j]
  exact A0b oA (.bool _) hq
 ·obtain⟨x,t,f,b,mc,sl,hM⟩:=hM;have oB:=oA.trans (F.back hp0)
  try simp -implicitDefEqProofs (disch:=first|exact dsc|fail)[A0j A0f]
  refine C2b (by have:=@E7v every 0;omega) ?_
  try simp -implicitDefEqProofs (disch:=first|exact dsc|fail)[]
  refine A06 hM ?_
  try simp -implicitDefEqProofs (disch:=first|exact dsc|fail)[]
  have hnow:=hM.now;refine A2d (c2:=7) (r:=1) (by decide) hK' hM hI (by decide) ?_ ?_ fun S2 o2 F2=>?_
  ·split<;>omega
  ·have:=@E7v upto M.now;omega
  ·have e:refL most 1 (if M.now<upto then M.now else upto) 1 M M.now (0,0) true=(0,false):=by
    rw[refL,if_pos];split<;>omega
   rw[e];have h2:=hM.fd F2 (fun k hk hk'=>by unfold in2 inC at *;omega) (by unfold in2;omega)
   have F3:Fd s1 S2 (fun _=>0) o2 (fun k=>k≠0):=(F.mono (fun k hk=>by unfold inC at hk;show k≠0;omega)).trans (F2.mono (fun k hk=>by unfold in2 at hk;show k≠0;omega))
   try simp -implicitDefEqProofs (disch:=first|exact dsc|fail)[]
   refine A9p h2 .nil (by simp) fun v3 S3 h3=>?_
   have hl3:=h3.in_.len (P:=P) A4z (s':=S3);simp only[List.map_nil,List.length_nil]at hl3
   try simp -implicitDefEqProofs (disch:=first|exact dsc|fail)[hl3]
   exact A0b ((oA.trans (F3.back (fun h=>h rfl))).trans h3.old_) (.bool _) hq
end Go.Zz
