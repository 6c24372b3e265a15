import Derived.Test.YtnghaapdoanabaaGreatDoorWG
set_option linter.all false
set_option maxRecDepth 20000
set_option linter.all false
namespace Go.Zz
open Go
variable {X : Y0}
def valE:Enc Value 1:=⟨fun v=>[v],fun _=>rfl⟩
@[simp]theorem G0v(v:Value):valE.cells v=[v]:=rfl
structure A0t where
 br:Int
 vol:Int
 blk:Int
 num:Int
 deriving DecidableEq
def A0s:Enc A0t 4:=⟨fun x=>[.int .i64 x.br,.int .i64 x.vol,.int .i64 x.blk,.int .u64 x.num],fun _=>rfl⟩
@[simp]theorem A1p(x:A0t):A0s.cells x=[.int .i64 x.br,.int .i64 x.vol,.int .i64 x.blk,.int .u64 x.num]:=rfl
theorem Enc.New.app{α:Type}{w:Nat}{E:Enc α w}{s0 s:St}{v:Value}{xs ys:List α}{bytes:Nat}{k:Post}(h:E.New s0 s v xs)(hw:0<w)(h1:(xs.length+ys.length)*bytes<=140737488355328)(h2:xs.length+ys.length<=140737488355328)
  (hk:∀v' S,E.New s0 S v' (xs++ys)->k v' S):appW w bytes v (some (ys.length,E.row ys)) k s:=by
 obtain⟨ρ,g1,g2,g3⟩:=h;have hn:=g2.le;refine g1.append hw h1 h2 fun v' S ρ' e1 e2 e3 e4 _=>hk v' S ⟨ρ',e1,⟨by omega,fun {b} hb=>?_⟩,fun b hb=>?_⟩
 ·rw[e4 b (by omega) (fun e=>by have:=g3 b e.symm;omega),g2.eq hb]
 ·rcases e3 with e|⟨b1,e,hb1⟩
  ·exact g3 b (by rw[<-e];exact hb)
  ·rw[hb]at e;cases e;omega
def lens{α:Type}(xss:List (List α)):Nat:=(xss.map (·.length)).sum
theorem A2w{α:Type}{xs:List α}{i:Nat}(h:i<xs.length):xs.take (i+1)=xs.take i++[xs[i]]:=(List.take_append_getElem h).symm
theorem A7x{α:Type}{xss:List (List α)}{i:Nat}(h:i<xss.length):lens (xss.take (i+1))=lens (xss.take i)+xss[i].length:=by
 rw[A2w h];simp only[lens,List.map_append,List.sum_append];simp
theorem B2c{α:Type}{xss:List (List α)}{i:Nat}:lens (xss.take i)<=lens xss:=by
 have:lens xss=lens (xss.take i)+lens (xss.drop i):=by
  simp only[lens];rw[<-List.sum_append,<-List.map_append,List.take_append_drop]
 omega
theorem A7y{α:Type}{xss:List (List α)}:xss.flatten.length=lens xss:=by simp[lens,List.length_flatten]
theorem A9w{P:Program}{t e:TypeId}{w bytes:Nat}{zero:List Value}{k:Post}{s:St}(h:A0e P t=some (e,w,bytes,zero)):capW P t (.slice none 0 0) k s=k (.int .i64 0) s:=by
 simp[capW,h]
theorem G90{n:Nat}{Q:Post}{s:St}(hn:n<=100000)(hq:∀v' S,ptrE.New s S v' []->Q v' S):CC X 207 [.slice none 0 0,.int .i64 n] Q s:=by
 refine F5l rfl ?_;have hl:=fun S=>(Enc.In.nil (E:=ptrE) (s:=s)).len (P:=P) (s':=S) A0k
 try simp -implicitDefEqProofs (disch:=first|exact dsc|fail)[hl]
 rw[A9w B3n];by_cases h0:n=0
 ·subst h0
  try simp -implicitDefEqProofs (disch:=first|exact dsc|fail)[hl]
  exact hq _ _ (.nil (.refl _))
 ·have h0':(0:Int)<n:=by omega
  have h0'':0<n:=by omega
  have hneg:¬(n:Int)<0:=by omega
  try simp -implicitDefEqProofs (disch:=first|exact dsc|fail)[hl,h0',hneg]
  rw[A9w B3n]
  try simp -implicitDefEqProofs (disch:=first|exact dsc|fail)[hl,h0',h0'',hneg,A86 A7q]
  simp only[appW,if_neg h0,B30];refine⟨by omega,by omega,?_⟩
  try simp -implicitDefEqProofs (disch:=first|exact dsc|fail)[hl]
  exact A0a (hq _ _ ⟨some s.next,Enc.Own.row (xs:=[]) (tl:=true) (by simp) (by rw[St.alloc_self];rfl) (.inl rfl),by simp,fun b hb=>by cases hb;exact Nat.le_refl _⟩)
theorem B8l{v:Value}{vs:List Value}{xss:List (List Nat)}{Q:Post}{s:St}(hv:valE.In s v vs)(hlen:vs.length=xss.length)(hx:∀i (h:i<vs.length) (h':i<xss.length),ptrE.In s vs[i] xss[i])
  (hn:vs.length<1000) (hn2:lens xss<100000) (hq:∀v' S,ptrE.New s S v' xss.flatten->Q v' S):CC X 202 [v] Q s:=by
 refine F14 rfl ?_
 try simp -implicitDefEqProofs (disch:=first|exact dsc|fail)[hv.len A7i]
 refine D13 fun I hI=>?_;refine up (n:=vs.length) (M:=fun i=>I v (.int .i64 (lens (xss.take i))) v (.int .i64 vs.length) (.int .i64 i) s) (fun i hi ih=>?_) 0 (Nat.zero_le _);refine hI _ _ _ _ _ _ ?_;by_cases hlt:i<vs.length
 ·have hlt':i<xss.length:=by omega
  have hxi:=hx i hlt hlt';have hle:=B2c (xss:=xss) (i:=i+1);have e:=A7x hlt';have ih:=ih hlt;rw[e]at ih;have hneg:¬((lens (xss.take i):Int)+xss[i].length<0):=by omega
  try simp -implicitDefEqProofs (disch:=first|exact dsc|fail)[hlt,hv.idx,hv.one,hxi.len A0k,hneg]
  simpa using ih
 ·have hie:i=vs.length:=by omega
  subst hie;have e:xss.take vs.length=xss:=by rw[hlen,List.take_length]
  rw[e]
  try simp -implicitDefEqProofs (disch:=first|exact dsc|fail)[]
  refine G90 (by omega) fun v1 S1 h1=>?_
  have hv1:=hv.old h1.old_
  try simp -implicitDefEqProofs (disch:=first|exact dsc|fail)[hv1.len A7i]
  refine C8t fun I2 hI2=>?_;refine up (n:=vs.length) (M:=fun i=>∀v2 S2,ptrE.New s S2 v2 (xss.take i).flatten->I2 v2 v (.int .i64 vs.length) (.int .i64 i) S2) (fun i hi ih v2 S2 h2=>?_) 0 (Nat.zero_le _) v1 S1 (by simpa using h1)
  refine hI2 _ _ _ _ _ ?_;by_cases hlt:i<vs.length
  ·have hlt':i<xss.length:=by omega
   have hv2:=hv.old h2.old_;have hxi:=(hx i hlt hlt').old h2.old_;have hle:=B2c (xss:=xss) (i:=i+1);have e:=A7x hlt'
   try simp -implicitDefEqProofs (disch:=first|exact dsc|fail)[hlt,hv2.idx,hv2.one,hxi.sl.news B3i]
   refine h2.app (by decide) (by rw[A7y];omega) (by rw[A7y];omega) fun v3 S3 h3=>?_
   have:=ih hlt v3 S3 (by rw[A2w hlt',List.flatten_append];simpa using h3)
   try simp -implicitDefEqProofs (disch:=first|exact dsc|fail)[]
   simpa using this
  ·have hie:i=vs.length:=by omega
   subst hie;have e:xss.take vs.length=xss:=by rw[hlen,List.take_length]
   rw[e]at h2
   try simp -implicitDefEqProofs (disch:=first|exact dsc|fail)[]
   exact A0a (hq _ _ h2)
theorem F40{n:Nat}{Q:Post}{s:St}(hn:n<=100000)(hq:∀v' S,A0s.New s S v' []->Q v' S):CC X 212 [.slice none 0 0,.int .i64 n] Q s:=by
 refine E9r rfl ?_;have hl:=fun S=>(Enc.In.nil (E:=A0s) (s:=s)).len (P:=P) (s':=S) A0i
 try simp -implicitDefEqProofs (disch:=first|exact dsc|fail)[hl]
 rw[A9w A5h];by_cases h0:n=0
 ·subst h0
  try simp -implicitDefEqProofs (disch:=first|exact dsc|fail)[hl]
  exact hq _ _ (.nil (.refl _))
 ·have h0':(0:Int)<n:=by omega
  have h0'':0<n:=by omega
  have hneg:¬(n:Int)<0:=by omega
  try simp -implicitDefEqProofs (disch:=first|exact dsc|fail)[hl,h0',hneg]
  rw[A9w A5h]
  try simp -implicitDefEqProofs (disch:=first|exact dsc|fail)[hl,h0',h0'',hneg,A86 A7q]
  simp only[appW,if_neg h0,B30];refine⟨by omega,by omega,?_⟩
  try simp -implicitDefEqProofs (disch:=first|exact dsc|fail)[hl]
  exact A0a (hq _ _ ⟨some s.next,Enc.Own.row (xs:=[]) (tl:=true) (by simp) (by rw[St.alloc_self];rfl) (.inl rfl),by simp,fun b hb=>by cases hb;exact Nat.le_refl _⟩)
theorem D5g{v:Value}{vs:List Value}{xss:List (List A0t)}{Q:Post}{s:St}(hv:valE.In s v vs)(hlen:vs.length=xss.length)(hx:∀i (h:i<vs.length) (h':i<xss.length),A0s.In s vs[i] xss[i])
  (hn:vs.length<1000) (hn2:lens xss<100000) (hq:∀v' S,A0s.New s S v' xss.flatten->Q v' S):CC X 209 [v] Q s:=by
 refine F0o rfl ?_
 try simp -implicitDefEqProofs (disch:=first|exact dsc|fail)[hv.len A7f]
 refine C91 fun I hI=>?_;refine up (n:=vs.length) (M:=fun i=>I v (.int .i64 (lens (xss.take i))) v (.int .i64 vs.length) (.int .i64 i) s) (fun i hi ih=>?_) 0 (Nat.zero_le _);refine hI _ _ _ _ _ _ ?_;by_cases hlt:i<vs.length
 ·have hlt':i<xss.length:=by omega
  have hxi:=hx i hlt hlt';have hle:=B2c (xss:=xss) (i:=i+1);have e:=A7x hlt';have ih:=ih hlt;rw[e]at ih;have hneg:¬((lens (xss.take i):Int)+xss[i].length<0):=by omega
  try simp -implicitDefEqProofs (disch:=first|exact dsc|fail)[hlt,hv.idx,hv.one,hxi.len A0i,hneg]
  simpa using ih
 ·have hie:i=vs.length:=by omega
  subst hie;have e:xss.take vs.length=xss:=by rw[hlen,List.take_length]
  rw[e]
  try simp -implicitDefEqProofs (disch:=first|exact dsc|fail)[]
  refine F40 (by omega) fun v1 S1 h1=>?_
  have hv1:=hv.old h1.old_
  try simp -implicitDefEqProofs (disch:=first|exact dsc|fail)[hv1.len A7f]
  refine D1o fun I2 hI2=>?_;refine up (n:=vs.length) (M:=fun i=>∀v2 S2,A0s.New s S2 v2 (xss.take i).flatten->I2 v2 v (.int .i64 vs.length) (.int .i64 i) S2) (fun i hi ih v2 S2 h2=>?_) 0 (Nat.zero_le _) v1 S1 (by simpa using h1)
  refine hI2 _ _ _ _ _ ?_;by_cases hlt:i<vs.length
  ·have hlt':i<xss.length:=by omega
   have hv2:=hv.old h2.old_;have hxi:=(hx i hlt hlt').old h2.old_;have hle:=B2c (xss:=xss) (i:=i+1);have e:=A7x hlt'
   try simp -implicitDefEqProofs (disch:=first|exact dsc|fail)[hlt,hv2.idx,hv2.one,hxi.sl.news A5j]
   refine h2.app (by decide) (by rw[A7y];omega) (by rw[A7y];omega) fun v3 S3 h3=>?_
   have:=ih hlt v3 S3 (by rw[A2w hlt',List.flatten_append];simpa using h3)
   try simp -implicitDefEqProofs (disch:=first|exact dsc|fail)[]
   simpa using this
  ·have hie:i=vs.length:=by omega
   subst hie;have e:xss.take vs.length=xss:=by rw[hlen,List.take_length]
   rw[e]at h2
   try simp -implicitDefEqProofs (disch:=first|exact dsc|fail)[]
   exact A0a (hq _ _ h2)
theorem G2j{n:Nat}{Q:Post}{s:St}(hn:n<=100000)(hq:∀v' S,(intE .u64).New s S v' []->Q v' S):CC X 213 [.slice none 0 0,.int .i64 n] Q s:=by
 refine F27 rfl ?_;have hl:=fun S=>(Enc.In.nil (E:=(intE .u64)) (s:=s)).len (P:=P) (s':=S) A0c
 try simp -implicitDefEqProofs (disch:=first|exact dsc|fail)[hl]
 rw[A9w A1o];by_cases h0:n=0
 ·subst h0
  try simp -implicitDefEqProofs (disch:=first|exact dsc|fail)[hl]
  exact hq _ _ (.nil (.refl _))
 ·have h0':(0:Int)<n:=by omega
  have h0'':0<n:=by omega
  have hneg:¬(n:Int)<0:=by omega
  try simp -implicitDefEqProofs (disch:=first|exact dsc|fail)[hl,h0',hneg]
  rw[A9w A1o]
  try simp -implicitDefEqProofs (disch:=first|exact dsc|fail)[hl,h0',h0'',hneg,A86 A7q]
  simp only[appW,if_neg h0,B30];refine⟨by omega,by omega,?_⟩
  try simp -implicitDefEqProofs (disch:=first|exact dsc|fail)[hl]
  exact A0a (hq _ _ ⟨some s.next,Enc.Own.row (xs:=[]) (tl:=true) (by simp) (by rw[St.alloc_self];rfl) (.inl rfl),by simp,fun b hb=>by cases hb;exact Nat.le_refl _⟩)
theorem E27{v:Value}{vs:List Value}{xss:List (List Int)}{Q:Post}{s:St}(hv:valE.In s v vs)(hlen:vs.length=xss.length)(hx:∀i (h:i<vs.length) (h':i<xss.length),(intE .u64).In s vs[i] xss[i])
  (hn:vs.length<1000) (hn2:lens xss<100000) (hq:∀v' S,(intE .u64).New s S v' xss.flatten->Q v' S):CC X 210 [v] Q s:=by
 refine F3d rfl ?_
 try simp -implicitDefEqProofs (disch:=first|exact dsc|fail)[hv.len A7b]
 refine C8n fun I hI=>?_;refine up (n:=vs.length) (M:=fun i=>I v (.int .i64 (lens (xss.take i))) v (.int .i64 vs.length) (.int .i64 i) s) (fun i hi ih=>?_) 0 (Nat.zero_le _);refine hI _ _ _ _ _ _ ?_;by_cases hlt:i<vs.length
 ·have hlt':i<xss.length:=by omega
  have hxi:=hx i hlt hlt';have hle:=B2c (xss:=xss) (i:=i+1);have e:=A7x hlt';have ih:=ih hlt;rw[e]at ih;have hneg:¬((lens (xss.take i):Int)+xss[i].length<0):=by omega
  try simp -implicitDefEqProofs (disch:=first|exact dsc|fail)[hlt,hv.idx,hv.one,hxi.len A0c,hneg]
  simpa using ih
 ·have hie:i=vs.length:=by omega
  subst hie;have e:xss.take vs.length=xss:=by rw[hlen,List.take_length]
  rw[e]
  try simp -implicitDefEqProofs (disch:=first|exact dsc|fail)[]
  refine G2j (by omega) fun v1 S1 h1=>?_
  have hv1:=hv.old h1.old_
  try simp -implicitDefEqProofs (disch:=first|exact dsc|fail)[hv1.len A7b]
  refine C9u fun I2 hI2=>?_;refine up (n:=vs.length) (M:=fun i=>∀v2 S2,(intE .u64).New s S2 v2 (xss.take i).flatten->I2 v2 v (.int .i64 vs.length) (.int .i64 i) S2) (fun i hi ih v2 S2 h2=>?_) 0 (Nat.zero_le _) v1 S1 (by simpa using h1)
  refine hI2 _ _ _ _ _ ?_;by_cases hlt:i<vs.length
  ·have hlt':i<xss.length:=by omega
   have hv2:=hv.old h2.old_;have hxi:=(hx i hlt hlt').old h2.old_;have hle:=B2c (xss:=xss) (i:=i+1);have e:=A7x hlt'
   try simp -implicitDefEqProofs (disch:=first|exact dsc|fail)[hlt,hv2.idx,hv2.one,hxi.sl.news A2m]
   refine h2.app (by decide) (by rw[A7y];omega) (by rw[A7y];omega) fun v3 S3 h3=>?_
   have:=ih hlt v3 S3 (by rw[A2w hlt',List.flatten_append];simpa using h3)
   try simp -implicitDefEqProofs (disch:=first|exact dsc|fail)[]
   simpa using this
  ·have hie:i=vs.length:=by omega
   subst hie;have e:xss.take vs.length=xss:=by rw[hlen,List.take_length]
   rw[e]at h2
   try simp -implicitDefEqProofs (disch:=first|exact dsc|fail)[]
   exact A0a (hq _ _ h2)
theorem E1k{v:Value}{xs:List A0t}{Q:Post}{s:St}(hv:A0s.In s v xs)(hlen:xs.length<1000000000)(hq:∀v' S,A0s.New s S v' xs->Q v' S):CC X 206 [v] Q s:=by
 refine F6e rfl ?_
 try simp -implicitDefEqProofs (disch:=first|exact dsc|fail)[hv.nil_eq A0i]
 by_cases hvn:B1f v=true
 ·obtain⟨rfl,rfl⟩:=hv.of_nil hvn;simp -implicitDefEqProofs (disch:=first|exact dsc|fail)[hvn];exact hq _ _ (.nil (.refl _))
 ·have ho:Old s (s.alloc (.cells [] false)):=by simp
  simp -implicitDefEqProofs (disch:=first|exact dsc|fail)[hvn,(hv.old ho).sl.news A5j];refine(Enc.Own.none_ (E:=A0s) (s:=s.alloc (.cells [] false)) (b:=s.next) (o:=0) (by simp)).append (ys:=xs) (by decide) (by simp;omega) (by simp;omega) fun v' S ρ' h1 h2 h3 h4 _=>?_
  refine A0a (hq v' S ⟨ρ',by simpa using h1,⟨by simp at h2;omega,fun {b} hb=>?_⟩,fun b hb=>?_⟩)
  ·rw[h4 b (by simp;omega) (by simp),St.alloc_old hb]
  ·rcases h3 with h|⟨b1,h,hb1⟩
   ·rw[h]at hb;cases hb
   ·rw[hb]at h;cases h;simp at hb1;omega
theorem F3m{v:Value}{xs:List Nat}{Q:Post}{s:St}(hv:ptrE.In s v xs)(hlen:xs.length<1000000000)(hq:∀v' S,ptrE.New s S v' xs->Q v' S):CC X 200 [v] Q s:=by
 refine F72 rfl ?_
 try simp -implicitDefEqProofs (disch:=first|exact dsc|fail)[hv.nil_eq A0k]
 by_cases hvn:B1f v=true
 ·obtain⟨rfl,rfl⟩:=hv.of_nil hvn;simp -implicitDefEqProofs (disch:=first|exact dsc|fail)[hvn];exact hq _ _ (.nil (.refl _))
 ·have ho:Old s (s.alloc (.cells [] false)):=by simp
  simp -implicitDefEqProofs (disch:=first|exact dsc|fail)[hvn,(hv.old ho).sl.news B3i];refine(Enc.Own.none_ (E:=ptrE) (s:=s.alloc (.cells [] false)) (b:=s.next) (o:=0) (by simp)).append (ys:=xs) (by decide) (by simp;omega) (by simp;omega) fun v' S ρ' h1 h2 h3 h4 _=>?_
  refine A0a (hq v' S ⟨ρ',by simpa using h1,⟨by simp at h2;omega,fun {b} hb=>?_⟩,fun b hb=>?_⟩)
  ·rw[h4 b (by simp;omega) (by simp),St.alloc_old hb]
  ·rcases h3 with h|⟨b1,h,hb1⟩
   ·rw[h]at hb;cases hb
   ·rw[hb]at h;cases h;simp at hb1;omega
theorem D86{v:Value}{ρ:Option Nat}{xs:List A0t}{i j:Nat}{Q:Post}{s:St}(hv:A0s.Own s v ρ xs)(hlen:xs.length<1000000)(hi:i<j)(hj:j<=xs.length)
  (hq:∀v' S,A0s.Own S v' ρ (xs.take i++xs.drop j)->Chg s S (Row ρ)->Q v' S):CC X 197 [v,.int .i64 i,.int .i64 j] Q s:=by
 refine F2y rfl ?_;have hI:=hv.in_;have hlen2:=hI.len (P:=P) (s':=s) A0i;obtain⟨b,c,post,tl,rfl,rfl,h1,h2,h3⟩:=hv.ne (by intro e;simp[e]at hj;omega)
 have hc2:=h3.two;have hA:A0s.At s b 0 xs:=⟨[],_,_,h2,rfl⟩;have hij:¬(i:Int)=j:=by omega
 have hn:=(Enc.Sl.row (c:=A2a 4 c j) (hA.drop hj)).news (P:=P) (t:=230) (bytes:=C4w) (zero:=D1h) A5j;simp only[List.length_drop,Nat.zero_add]at hn
 try simp only[Nat.mul_one]at hn
 try simp -implicitDefEqProofs (disch:=first|exact dsc|fail)[hij,hn]
 have e1:(xs.take i).length=i:=by simp;omega
 have hd:=A9f (pre:=A0s.row (xs.take i)) (mid:=A0s.row ((xs.drop i).take (xs.length-j))) (post:=A0s.row ((xs.drop i).drop (xs.length-j))++post) (xs:=A0s.row (xs.drop j)) (by simp only[Enc.row_length];simp;omega)
 have hs:A0s.row (xs.take i)++(A0s.row ((xs.drop i).take (xs.length-j))++(A0s.row ((xs.drop i).drop (xs.length-j))++post))=A0s.row xs++post:=by
  rw[<-List.append_assoc (A0s.row ((xs.drop i).take _)),<-Enc.row_append,List.take_append_drop,<-List.append_assoc,<-Enc.row_append,List.take_append_drop]
 rw[hs]at hd;simp only[Enc.row_length,e1]at hd
 try simp only[Nat.mul_one]at hd
 refine B81 (w:=4) h2 (by omega) (by omega) (by simp;omega) (by simp) (hc2.imp id fun h=>⟨h.1,by omega⟩) ?_
 try rw[Nat.mul_one]
 rw[hd]
 try simp -implicitDefEqProofs (disch:=first|exact dsc|fail)[]
 rw[A9m A0i A53 St.put_self (by simp;omega) (by omega) (by simp;omega) (by simp;omega) (hc2.imp id fun h=>⟨h.1,by omega⟩)]
 try simp -implicitDefEqProofs (disch:=first|exact dsc|fail)[]
 refine A9a A5h (by omega) St.put_self (by simp;omega) ?_
 try simp -implicitDefEqProofs (disch:=first|exact dsc|fail)[]
 have hz:=A9f (pre:=A0s.row (xs.take i++xs.drop j)) (mid:=A0s.row (xs.drop (i+(xs.length-j)))) (post:=post) (xs:=A2q (A0s.cells (A0t.mk 0 0 0 0)) ((xs.length-(i+(xs.length-j)))*4)) (by simp)
 have hm3:(A0s.row (xs.take i++xs.drop j)).length=(i+(xs.length-j))*4:=by simp[e1]
 rw[hm3,Enc.row_append,List.append_assoc]at hz
 try simp only[Nat.mul_one]at hz
 erw [hz]
 refine A0a (hq _ _ ?_ ⟨by simp,fun b' hne=>St.put_other (fun e=>hne (by rw[e];rfl))⟩)
 have:=Enc.Own.row (E:=A0s) (s:=s.put b (.cells (A0s.row (xs.take i++xs.drop j)++(A2q (A0s.cells (A0t.mk 0 0 0 0)) ((xs.length-(i+(xs.length-j)))*4)++post)) tl)) (b:=b) (c:=c) (xs:=xs.take i++xs.drop j) (by simpa using h1) St.put_self
  (h3.imp id fun h=>⟨h.1,by simp;omega,by simp;omega⟩)
 simpa[e1,Enc.row_append]using this
theorem E1v{v:Value}{ρ:Option Nat}{xs:List Int}{i j:Nat}{Q:Post}{s:St}(hv:(intE .u64).Own s v ρ xs)(hlen:xs.length<1000000)(hi:i<j)(hj:j<=xs.length)
  (hq:∀v' S,(intE .u64).Own S v' ρ (xs.take i++xs.drop j)->Chg s S (Row ρ)->Q v' S):CC X 198 [v,.int .i64 i,.int .i64 j] Q s:=by
 refine F0k rfl ?_;have hI:=hv.in_;have hlen2:=hI.len (P:=P) (s':=s) A0c;obtain⟨b,c,post,tl,rfl,rfl,h1,h2,h3⟩:=hv.ne (by intro e;simp[e]at hj;omega)
 have hc2:=h3.two;have hA:(intE .u64).At s b 0 xs:=⟨[],_,_,h2,rfl⟩;have hij:¬(i:Int)=j:=by omega
 have hn:=(Enc.Sl.row (c:=A2a 1 c j) (hA.drop hj)).news (P:=P) (t:=34) (bytes:=C8w) (zero:=D6o) A2m;simp only[List.length_drop,Nat.zero_add]at hn
 try simp only[Nat.mul_one]at hn
 try simp -implicitDefEqProofs (disch:=first|exact dsc|fail)[hij,hn]
 have e1:(xs.take i).length=i:=by simp;omega
 have hd:=A9f (pre:=(intE .u64).row (xs.take i)) (mid:=(intE .u64).row ((xs.drop i).take (xs.length-j))) (post:=(intE .u64).row ((xs.drop i).drop (xs.length-j))++post) (xs:=(intE .u64).row (xs.drop j)) (by simp only[Enc.row_length];simp;omega)
 have hs:(intE .u64).row (xs.take i)++((intE .u64).row ((xs.drop i).take (xs.length-j))++((intE .u64).row ((xs.drop i).drop (xs.length-j))++post))=(intE .u64).row xs++post:=by
  rw[<-List.append_assoc ((intE .u64).row ((xs.drop i).take _)),<-Enc.row_append,List.take_append_drop,<-List.append_assoc,<-Enc.row_append,List.take_append_drop]
 rw[hs]at hd;simp only[Enc.row_length,e1]at hd
 try simp only[Nat.mul_one]at hd
 refine B81 (w:=1) h2 (by omega) (by omega) (by simp;omega) (by simp) (hc2.imp id fun h=>⟨h.1,by omega⟩) ?_
 try rw[Nat.mul_one]
 rw[hd]
 try simp -implicitDefEqProofs (disch:=first|exact dsc|fail)[]
 rw[A9m A0c A4u St.put_self (by simp;omega) (by omega) (by simp;omega) (by simp;omega) (hc2.imp id fun h=>⟨h.1,by omega⟩)]
 try simp -implicitDefEqProofs (disch:=first|exact dsc|fail)[]
 refine A9a A1o (by omega) St.put_self (by simp;omega) ?_
 try simp -implicitDefEqProofs (disch:=first|exact dsc|fail)[]
 have hz:=A9f (pre:=(intE .u64).row (xs.take i++xs.drop j)) (mid:=(intE .u64).row (xs.drop (i+(xs.length-j)))) (post:=post) (xs:=A2q ((intE .u64).cells (0:Int)) ((xs.length-(i+(xs.length-j)))*1)) (by simp)
 have hm3:((intE .u64).row (xs.take i++xs.drop j)).length=(i+(xs.length-j))*1:=by simp[e1]
 rw[hm3,Enc.row_append,List.append_assoc]at hz
 try simp only[Nat.mul_one]at hz
 erw [hz]
 refine A0a (hq _ _ ?_ ⟨by simp,fun b' hne=>St.put_other (fun e=>hne (by rw[e];rfl))⟩)
 have:=Enc.Own.row (E:=(intE .u64)) (s:=s.put b (.cells ((intE .u64).row (xs.take i++xs.drop j)++(A2q ((intE .u64).cells (0:Int)) ((xs.length-(i+(xs.length-j)))*1)++post)) tl)) (b:=b) (c:=c) (xs:=xs.take i++xs.drop j) (by simpa using h1) St.put_self
  (h3.imp id fun h=>⟨h.1,by simp;omega,by simp;omega⟩)
 simpa[e1,Enc.row_append]using this
theorem A66{α:Type}{w:Nat}{E:Enc α w}{S:St}{k:Post}{d sb o o2 l m c c2:Nat}{vs us Zs R:List Value}{tl tl2:Bool}{pre mid:List α}(hd:S.heap d=some (.cells vs tl))(hvs:vs=E.row pre++(Zs++R))(hz:Zs.length=mid.length*w)(ho:o=pre.length*w)
  (hs:S.heap sb=some (.cells us tl2)) (h2:o2+m*w<=us.length) (hm:mid.length<=m) (hm2:mid.length<=l) (hm3:mid.length=m\/mid.length=l) (hus:(us.drop o2).take (mid.length*w)=E.row mid)
  (hk:k (.int .i64 mid.length) (S.put d (.cells (E.row (pre++mid)++R) tl))):B45 w (.slice (some ⟨d,o,none⟩) l c) (.slice (some ⟨sb,o2,none⟩) m c2) k S:=by
 have m1:Nat.min m l=mid.length:=by rcases hm3 with e|e<;>rw[e]<;>first|exact Nat.min_eq_left (by omega)|exact Nat.min_eq_right (by omega)
 refine D70 hd hs h2 (by rw[m1,hvs,ho];simp;omega) ?_
 rw[m1,hus,hvs,ho];have:=A9f (pre:=E.row pre) (mid:=Zs) (post:=R) (xs:=E.row mid) (by simp[hz])
 rw[Enc.row_length]at this;rw[this,<-List.append_assoc,<-Enc.row_append];exact hk
theorem C3g:A3s P 257=false:=by kernel_rfl
theorem C3r:tOvl P 257=some 4:=by kernel_rfl
theorem C3e{C:A33}{args:List Value}{k:Post}{s:St}:B3u P C 257 args k s=ovlW (some 4) args k s:=by rw[B3u,C3g,C3r]
theorem D6e{v:Value}{ρ:Option Nat}{xs:List A0t}{y:A0t}{ub i:Nat}{Q:Post}{s:St}(hv:A0s.Own s v ρ xs)(hub:ub<s.next)(hu:s.heap ub=some (.cells (A0s.cells y) true))(hne:ρ≠some ub)(hlen:xs.length<1000000)(hi:i<=xs.length)
  (hq:∀v' S ρ',A0s.Own S v' ρ' (xs.take i++y::xs.drop i)->Chg s S (Row ρ)->(∀b,ρ'=some b->ρ=some b\/s.next<=b)->Q v' S):CC X 255 [v,.int .i64 i,.slice (some ⟨ub,0,none⟩) 1 1] Q s:=by
 refine E91 rfl ?_;have hvin:=hv.in_;have huS:A0s.Sl s (.slice (some ⟨ub,0,none⟩) 1 1) [y]:=.row (xs:=[y]) ⟨[],[],true,by simpa[Enc.row]using hu,rfl⟩
 have hlenv:=fun S=>hvin.len (P:=P) (s':=S) A0i;have hpart:=hvin.part (P:=P) (lo:=some (.int .i64 i)) (hi:=none) A0i A53 ⟨by simp,by simp,by simp;omega,by simp⟩
 have hrow1:A0s.row [y]=A0s.cells y:=by simp[Enc.row]
 try simp -implicitDefEqProofs (disch:=first|exact dsc|fail)[hlenv,hpart]
 by_cases hin:i=xs.length
 ·subst hin
  try simp -implicitDefEqProofs (disch:=first|exact dsc|fail)[hlenv,huS.news A5j]
  refine hv.append (ys:=[y]) (by decide) (by simp;omega) (by simp;omega) fun v' S ρ' h1 h2 h3 h4 _=>?_
  refine A0a (hq v' S ρ' (by simpa using h1) ⟨h2,fun {b} hb hn=>h4 b hb (fun e=>hn e.symm)⟩ (fun b hb=>?_))
  rcases h3 with e|⟨b1,e,hb1⟩
  ·exact .inl (e▸hb)
  ·right;rw[hb]at e;cases e;exact hb1
 ·have hilt:i<xs.length:=by omega
  have hin':¬(i:Int)=xs.length:=by omega
  obtain⟨b,c,post,tl,rfl,rfl,h1,h2,h3⟩:=hv.ne (by intro e;simp[e]at hilt)
  have hc2:=h3.two;have hbu:ub≠b:=fun e=>hne (by rw[e])
  try simp -implicitDefEqProofs (disch:=first|exact dsc|fail)[hin']
  refine C7a A5h (by decide) h2 h3 fun n post' tl' s' hb' hn' hold hn1 hn2 hn3 hcap=>?_
  have hu':s'.heap ub=some (.cells (A0s.cells y) true):=(hold _ hbu).trans hu;have hcy:A0s.row [y]=A0s.cells y:=by simp[Enc.row]
  have hxd:(xs.drop i).length=xs.length-i:=by simp
  have hxt:(xs.take i).length=i:=by simp;omega
  have hus:((A0s.row xs++post').drop (i*4)).take ((xs.drop i).length*4)=A0s.row (xs.drop i):=by
   rw[List.drop_append_of_le_length (by simp;omega),Enc.row_drop hi,List.take_append_of_le_length (by simp)];exact List.take_of_length_le (by simp)
  by_cases hfit:(n:Int)<xs.length+1
  ·try simp -implicitDefEqProofs (disch:=first|exact dsc|fail)[hfit,A86 A7q]
   refine C11 hb' (by omega) (by omega) (by omega) (by simp;omega) (hcap.imp (fun h=>⟨h.1,h.2.1,by simp;omega⟩) (fun h=>⟨h.1,by omega⟩)) ?_
   have e3:i+(xs.length+1-i)=xs.length+1:=by omega
   rw[List.take_append_of_le_length (by simp;omega),Enc.row_take hi,e3]
   try simp -implicitDefEqProofs (disch:=first|exact dsc|fail)[hn',hold]
   refine A66 (E:=A0s) (pre:=xs.take i) (mid:=[y]) (St.alloc_at (by omega)) (by rw[List.take_append_drop 4]) (by simp;omega) (by simp;omega) ((St.alloc_old (by omega)).trans hu') (by simp) (by simp) (by simp;omega) (by simp) (by simp[hcy]) ?_
   try simp -implicitDefEqProofs (disch:=first|exact dsc|fail)[]
   refine A66 (E:=A0s) (pre:=xs.take i++[y]) (mid:=xs.drop i) (R:=[]) (by rw[St.alloc_at (by omega)]) (by rw[List.append_nil]) (by simp;omega) (by simp;omega) ((St.alloc_old (by omega)).trans hb') (by simp;omega) (by simp) (by simp<;>omega) (by simp<;>omega) (by first|exact hus|(have h:=hus;simp only[Nat.mul_one]at h ⊢;exact h)) ?_
   refine A0a (hq _ _ (some s.next) ?_ ⟨by simp;omega,fun {b'} hb2 hne2=>?_⟩ (fun b' hb2=>by cases hb2;right;exact Nat.le_refl _))
   ·have e4:(xs.take i++y::xs.drop i).length=xs.length+1:=by simp;omega
    have:=Enc.Own.row (E:=A0s) (b:=s.next) (c:=top+4) (xs:=xs.take i++y::xs.drop i) (post:=[]) (tl:=true)
     (s:=(s'.alloc (.cells (A0s.row (xs.take i++[y])++(A2q (A0s.cells (A0t.mk 0 0 0 0)) ((xs.length+1-i)*4)).drop 4) true)).put s.next (.cells (A0s.row (xs.take i++[y]++xs.drop i)++[]) true)) (by simp;omega) (by rw[St.put_self];simp[Enc.row_append,Enc.row_cons]) (.inl rfl)
    rw[e4]at this
    first|exact this|simpa using this
   ·rw[St.put_other (by omega),St.alloc_old (by omega),hold _ (fun e=>hne2 (by rw[e];rfl))]
  ·have hfit2:xs.length+1<=n:=by omega
   have htot:(xs.length+1)*4<=xs.length*4+post'.length:=by rcases hcap with h|h<;>omega
   have hcE:c=top+4\/c<top/\(xs.length:Int)+1<=c:=hcap.imp (fun h=>h.1) (fun h=>⟨h.1,by omega⟩)
   try simp -implicitDefEqProofs (disch:=first|exact dsc|fail)[hfit]
   rw[A9m A0i A53 hb' (by simp) (by omega) (by simp) (by simp;omega) hcE]
   have hcF:c=top+4\/c<top/\xs.length+1<=c:=hcap.imp (fun h=>h.1) (fun h=>⟨h.1,by omega⟩)
   try simp -implicitDefEqProofs (disch:=first|exact dsc|fail)[C3e]
   refine B7z hbu hu' hb' (by simp) (by simp;omega) ?_
   try simp -implicitDefEqProofs (disch:=first|exact dsc|fail)[]
   have hxt1:(xs.take (i+1)).length=i+1:=by simp;omega
   have hs1:A0s.row xs++post'=A0s.row (xs.take (i+1))++((A0s.row (xs.drop (i+1))++post').take ((xs.drop i).length*4)++(A0s.row (xs.drop (i+1))++post').drop ((xs.drop i).length*4)):=by
    rw[List.take_append_drop,<-List.append_assoc,<-Enc.row_append,List.take_append_drop]
   refine A66 (E:=A0s) (pre:=xs.take (i+1)) (mid:=xs.drop i) hb' hs1 (by simp;omega) (by simp;omega) hb' (by simp;omega) (by simp<;>omega) (by simp<;>omega) (by simp<;>omega) (by first|exact hus|(have h:=hus;simp only[Nat.mul_one]at h ⊢;exact h)) ?_
   have hs2:A0s.row (xs.take (i+1)++xs.drop i)=A0s.row (xs.take i)++(A0s.cells xs[i]++A0s.row (xs.drop i)):=by
    rw[A2w hilt,Enc.row_append,Enc.row_append,List.append_assoc];simp[Enc.row]
   have hcx:(A0s.cells xs[i]).length=4:=by simp
   generalize A0s.cells xs[i]=cx at hs2 hcx;rw[hs2,List.append_assoc,List.append_assoc]
   try simp -implicitDefEqProofs (disch:=first|exact dsc|fail)[]
   refine A66 (E:=A0s) (pre:=xs.take i) (mid:=[y]) (Zs:=cx) St.put_self rfl (by simp[hcx]) (by simp;omega) ((St.put_other hbu).trans hu') (by simp) (by simp) (by simp;omega) (by simp) (by simp[hcy]) ?_
   rw[<-List.append_assoc (A0s.row (xs.take i++[y])),<-Enc.row_append];generalize hpp:List.drop _ (A0s.row (List.drop (i+1) xs)++post')=pp;refine A0a (hq _ _ (some b) ?_ ⟨by simp;omega,fun {b'} hb2 hne2=>?_⟩ (fun b' hb2=>.inl hb2))
   ·have e4:(xs.take i++y::xs.drop i).length=xs.length+1:=by simp;omega
    have hpl:xs.length*4+post'.length=(xs.length+1)*4+pp.length:=by rw[<-hpp];simp;omega
    have:=Enc.Own.row (E:=A0s) (b:=b) (c:=c) (xs:=xs.take i++y::xs.drop i) (post:=pp) (tl:=tl') (s:=(s'.put b (.cells (A0s.row (xs.take i)++(cx++(A0s.row (xs.drop i)++pp))) tl')).put b (.cells (A0s.row (xs.take i++[y]++xs.drop i)++pp) tl'))
     (by simp;omega) (by rw[St.put_self];simp[Enc.row_append,Enc.row_cons]) (hcap.imp (fun h=>h.1) (fun h=>⟨h.1,by rw[e4];omega,by rw[e4];omega⟩))
    rw[e4]at this;exact this
   ·rw[St.put_other (fun e=>hne2 (by rw[e];rfl)),St.put_other (fun e=>hne2 (by rw[e];rfl)),hold _ (fun e=>hne2 (by rw[e];rfl))]
theorem C8y:A3s P 259=false:=by kernel_rfl
theorem D1f:tOvl P 259=some 1:=by kernel_rfl
theorem D1b{C:A33}{args:List Value}{k:Post}{s:St}:B3u P C 259 args k s=ovlW (some 1) args k s:=by rw[B3u,C8y,D1f]
theorem E1a{v:Value}{ρ:Option Nat}{xs:List Int}{y:Int}{ub i:Nat}{Q:Post}{s:St}(hv:(intE .u64).Own s v ρ xs)(hub:ub<s.next)(hu:s.heap ub=some (.cells ((intE .u64).cells y) true))(hne:ρ≠some ub)(hlen:xs.length<1000000)(hi:i<=xs.length)
  (hq:∀v' S ρ',(intE .u64).Own S v' ρ' (xs.take i++y::xs.drop i)->Chg s S (Row ρ)->(∀b,ρ'=some b->ρ=some b\/s.next<=b)->Q v' S):CC X 256 [v,.int .i64 i,.slice (some ⟨ub,0,none⟩) 1 1] Q s:=by
 refine F0p rfl ?_;have hvin:=hv.in_;have huS:(intE .u64).Sl s (.slice (some ⟨ub,0,none⟩) 1 1) [y]:=.row (xs:=[y]) ⟨[],[],true,by simpa[Enc.row]using hu,rfl⟩
 have hlenv:=fun S=>hvin.len (P:=P) (s':=S) A0c;have hpart:=hvin.part (P:=P) (lo:=some (.int .i64 i)) (hi:=none) A0c A4u ⟨by simp,by simp,by simp;omega,by simp⟩
 have hrow1:(intE .u64).row [y]=(intE .u64).cells y:=by simp[Enc.row]
 try simp -implicitDefEqProofs (disch:=first|exact dsc|fail)[hlenv,hpart]
 by_cases hin:i=xs.length
 ·subst hin
  try simp -implicitDefEqProofs (disch:=first|exact dsc|fail)[hlenv,huS.news A2m]
  refine hv.append (ys:=[y]) (by decide) (by simp;omega) (by simp;omega) fun v' S ρ' h1 h2 h3 h4 _=>?_
  refine A0a (hq v' S ρ' (by simpa using h1) ⟨h2,fun {b} hb hn=>h4 b hb (fun e=>hn e.symm)⟩ (fun b hb=>?_))
  rcases h3 with e|⟨b1,e,hb1⟩
  ·exact .inl (e▸hb)
  ·right;rw[hb]at e;cases e;exact hb1
 ·have hilt:i<xs.length:=by omega
  have hin':¬(i:Int)=xs.length:=by omega
  obtain⟨b,c,post,tl,rfl,rfl,h1,h2,h3⟩:=hv.ne (by intro e;simp[e]at hilt)
  have hc2:=h3.two;have hbu:ub≠b:=fun e=>hne (by rw[e])
  try simp -implicitDefEqProofs (disch:=first|exact dsc|fail)[hin']
  refine C7a A1o (by decide) h2 h3 fun n post' tl' s' hb' hn' hold hn1 hn2 hn3 hcap=>?_
  have hu':s'.heap ub=some (.cells ((intE .u64).cells y) true):=(hold _ hbu).trans hu;have hcy:(intE .u64).row [y]=(intE .u64).cells y:=by simp[Enc.row]
  have hxd:(xs.drop i).length=xs.length-i:=by simp
  have hxt:(xs.take i).length=i:=by simp;omega
  have hus:(((intE .u64).row xs++post').drop (i*1)).take ((xs.drop i).length*1)=(intE .u64).row (xs.drop i):=by
   rw[List.drop_append_of_le_length (by simp;omega),Enc.row_drop hi,List.take_append_of_le_length (by simp)];exact List.take_of_length_le (by simp)
  by_cases hfit:(n:Int)<xs.length+1
  ·try simp -implicitDefEqProofs (disch:=first|exact dsc|fail)[hfit,A86 A7q]
   refine C11 hb' (by omega) (by omega) (by omega) (by simp;omega) (hcap.imp (fun h=>⟨h.1,h.2.1,by simp;omega⟩) (fun h=>⟨h.1,by omega⟩)) ?_
   have e3:i+(xs.length+1-i)=xs.length+1:=by omega
   rw[List.take_append_of_le_length (by simp;omega),Enc.row_take hi,e3]
   try simp -implicitDefEqProofs (disch:=first|exact dsc|fail)[hn',hold]
   refine A66 (E:=(intE .u64)) (pre:=xs.take i) (mid:=[y]) (St.alloc_at (by omega)) (by rw[List.take_append_drop 1]) (by simp;omega) (by simp;omega) ((St.alloc_old (by omega)).trans hu') (by simp) (by simp) (by simp;omega) (by simp) (by simp[hcy]) ?_
   try simp -implicitDefEqProofs (disch:=first|exact dsc|fail)[]
   refine A66 (E:=(intE .u64)) (pre:=xs.take i++[y]) (mid:=xs.drop i) (R:=[]) (by rw[St.alloc_at (by omega)]) (by rw[List.append_nil]) (by simp;omega) (by simp;omega) ((St.alloc_old (by omega)).trans hb') (by simp;omega) (by simp) (by simp<;>omega) (by simp<;>omega) (by first|exact hus|(have h:=hus;simp only[Nat.mul_one]at h ⊢;exact h)) ?_
   refine A0a (hq _ _ (some s.next) ?_ ⟨by simp;omega,fun {b'} hb2 hne2=>?_⟩ (fun b' hb2=>by cases hb2;right;exact Nat.le_refl _))
   ·have e4:(xs.take i++y::xs.drop i).length=xs.length+1:=by simp;omega
    have:=Enc.Own.row (E:=(intE .u64)) (b:=s.next) (c:=top+1) (xs:=xs.take i++y::xs.drop i) (post:=[]) (tl:=true)
     (s:=(s'.alloc (.cells ((intE .u64).row (xs.take i++[y])++(A2q ((intE .u64).cells (0:Int)) ((xs.length+1-i)*1)).drop 1) true)).put s.next (.cells ((intE .u64).row (xs.take i++[y]++xs.drop i)++[]) true)) (by simp;omega) (by rw[St.put_self];simp[Enc.row_append,Enc.row_cons]) (.inl rfl)
    rw[e4]at this
    first|exact this|simpa using this
   ·rw[St.put_other (by omega),St.alloc_old (by omega),hold _ (fun e=>hne2 (by rw[e];rfl))]
  ·have hfit2:xs.length+1<=n:=by omega
   have htot:(xs.length+1)*1<=xs.length*1+post'.length:=by rcases hcap with h|h<;>omega
   have hcE:c=top+1\/c<top/\(xs.length:Int)+1<=c:=hcap.imp (fun h=>h.1) (fun h=>⟨h.1,by omega⟩)
   try simp -implicitDefEqProofs (disch:=first|exact dsc|fail)[hfit]
   rw[A9m A0c A4u hb' (by simp) (by omega) (by simp) (by simp;omega) hcE]
   have hcF:c=top+1\/c<top/\xs.length+1<=c:=hcap.imp (fun h=>h.1) (fun h=>⟨h.1,by omega⟩)
   try simp -implicitDefEqProofs (disch:=first|exact dsc|fail)[D1b]
   refine B7z hbu hu' hb' (by simp) (by simp;omega) ?_
   try simp -implicitDefEqProofs (disch:=first|exact dsc|fail)[]
   have hxt1:(xs.take (i+1)).length=i+1:=by simp;omega
   have hs1:(intE .u64).row xs++post'=(intE .u64).row (xs.take (i+1))++(((intE .u64).row (xs.drop (i+1))++post').take ((xs.drop i).length*1)++((intE .u64).row (xs.drop (i+1))++post').drop ((xs.drop i).length*1)):=by
    rw[List.take_append_drop,<-List.append_assoc,<-Enc.row_append,List.take_append_drop]
   refine A66 (E:=(intE .u64)) (pre:=xs.take (i+1)) (mid:=xs.drop i) hb' hs1 (by simp;omega) (by simp;omega) hb' (by simp;omega) (by simp<;>omega) (by simp<;>omega) (by simp<;>omega) (by first|exact hus|(have h:=hus;simp only[Nat.mul_one]at h ⊢;exact h)) ?_
   have hs2:(intE .u64).row (xs.take (i+1)++xs.drop i)=(intE .u64).row (xs.take i)++((intE .u64).cells xs[i]++(intE .u64).row (xs.drop i)):=by
    rw[A2w hilt,Enc.row_append,Enc.row_append,List.append_assoc];simp[Enc.row]
   have hcx:((intE .u64).cells xs[i]).length=1:=by simp
   generalize (intE .u64).cells xs[i]=cx at hs2 hcx;rw[hs2,List.append_assoc,List.append_assoc]
   try simp -implicitDefEqProofs (disch:=first|exact dsc|fail)[]
   refine A66 (E:=(intE .u64)) (pre:=xs.take i) (mid:=[y]) (Zs:=cx) St.put_self rfl (by simp[hcx]) (by simp;omega) ((St.put_other hbu).trans hu') (by simp) (by simp) (by simp;omega) (by simp) (by simp[hcy]) ?_
   rw[<-List.append_assoc ((intE .u64).row (xs.take i++[y])),<-Enc.row_append];generalize hpp:List.drop _ ((intE .u64).row (List.drop (i+1) xs)++post')=pp;refine A0a (hq _ _ (some b) ?_ ⟨by simp;omega,fun {b'} hb2 hne2=>?_⟩ (fun b' hb2=>.inl hb2))
   ·have e4:(xs.take i++y::xs.drop i).length=xs.length+1:=by simp;omega
    have hpl:xs.length*1+post'.length=(xs.length+1)*1+pp.length:=by rw[<-hpp];simp;omega
    have:=Enc.Own.row (E:=(intE .u64)) (b:=b) (c:=c) (xs:=xs.take i++y::xs.drop i) (post:=pp) (tl:=tl') (s:=(s'.put b (.cells ((intE .u64).row (xs.take i)++(cx++((intE .u64).row (xs.drop i)++pp))) tl')).put b (.cells ((intE .u64).row (xs.take i++[y]++xs.drop i)++pp) tl'))
     (by simp;omega) (by rw[St.put_self];simp[Enc.row_append,Enc.row_cons]) (hcap.imp (fun h=>h.1) (fun h=>⟨h.1,by rw[e4];omega,by rw[e4];omega⟩))
    rw[e4]at this;exact this
   ·rw[St.put_other (fun e=>hne2 (by rw[e];rfl)),St.put_other (fun e=>hne2 (by rw[e];rfl)),hold _ (fun e=>hne2 (by rw[e];rfl))]
end Go.Zz
