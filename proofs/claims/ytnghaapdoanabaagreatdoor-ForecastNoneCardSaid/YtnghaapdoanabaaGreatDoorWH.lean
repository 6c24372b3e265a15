import Derived.Test.YtnghaapdoanabaaGreatDoorWF
set_option linter.all false
set_option maxRecDepth 20000
set_option linter.all false
namespace Go.Zz
open Go
variable {X : Y0}
structure CellM where
 kind:Int
 num:Int
 min:Int
 branch:Int
 vol:Int
 blk:Int
 ref:Int
 «from»:Int
 to:Int
 until_:Int
 body:List Int
def cellL(c:CellM)(v:Value):List Value:=[.int .i64 c.kind,.int .u64 c.num,.int .i64 c.min,.int .i64 c.branch,.int .i64 c.vol,.int .i64 c.blk,.int .u64 c.ref,.int .i64 c.from,.int .i64 c.to,.int .i64 c.until_,v]
def cellV(c:CellM)(v:Value):Value:=.agg #[.int .i64 c.kind,.int .u64 c.num,.int .i64 c.min,.int .i64 c.branch,.int .i64 c.vol,.int .i64 c.blk,.int .u64 c.ref,.int .i64 c.from,.int .i64 c.to,.int .i64 c.until_,v]
def hPlace(k:Int):Bool:=decide (1<=k)&&decide (k<=5)
def hRef(k:Int):Bool:=decide (1<=k)&&decide (k<=7)&&!decide (k=5)
def hMins(k:Int):Bool:=decide (k=6)
def hBody(k:Int):Bool:=decide (k=1)||decide (k=3)
def hKind(k:Int):Bool:=decide (1<=k)&&decide (k<=8)
section
variable {s : St} {Q : Post} {c : CellM} {v : Value}
theorem has_spec{k:Int}(hq:Q (.tuple #[.agg #[.bool (hPlace k),.bool (hRef k),.bool (hMins k),.bool (hBody k)],.bool (hKind k)]) s):CC X 72 [.int .i64 k] Q s:=by
 refine f72xin rfl ?_;have hk:k=1\/k=2\/k=3\/k=4\/k=5\/k=6\/k=7\/k=8\/(k≠1/\k≠2/\k≠3/\k≠4/\k≠5/\k≠6/\k≠7/\k≠8):=by omega
 rcases hk with rfl|rfl|rfl|rfl|rfl|rfl|rfl|rfl|⟨h1,h2,h3,h4,h5,h6,h7,h8⟩
 iterate 8
  ·try simp -implicitDefEqProofs (disch:=first|exact dsc|fail)[]
   exact kEnd_back (by simp) (bel_tuple (by simp)) (by simpa[hPlace,hRef,hMins,hBody,hKind]using hq)
 ·try simp -implicitDefEqProofs (disch:=first|exact dsc|fail)[h1,h2,h3,h4,h5,h6,h7,h8]
  refine kEnd_back (by simp) (bel_tuple (by simp)) ?_
  have e1:hPlace k=false:=by simp[hPlace];omega
  have e2:hRef k=false:=by simp[hRef];omega
  have e3:hMins k=false:=by simp[hMins,h6]
  have e4:hBody k=false:=by simp[hBody,h1,h3]
  have e5:hKind k=false:=by simp[hKind];omega
  rw[e1,e2,e3,e4,e5]at hq;exact hq
theorem within_spec{n m:Int}(hq:Q (.bool (decide (0<=n)&&decide (n<=m))) s):CC X 74 [.int .i64 n,.int .i64 m] Q s:=by
 refine f74xin rfl ?_;by_cases h:0<=n
 ·try simp -implicitDefEqProofs (disch:=first|exact dsc|fail)[h]
  simpa[h]using hq
 ·try simp -implicitDefEqProofs (disch:=first|exact dsc|fail)[h]
  simpa[h]using hq
theorem Moment_spec(hq:Q (.bool (decide (c.kind=1)||decide (c.kind=2)||decide (c.kind=3))) s)(hv:data v=true/\v.cells=#[v]):CC X 42 [cellV c v] Q s:=by
 refine f42xin rfl ?_;by_cases h1:c.kind=1
 ·try simp -implicitDefEqProofs (disch:=first|exact dsc|fail)[cellV,hv,h1]
  exact kEnd_back (by simp) (.bool _) (by simpa[h1]using hq)
 ·by_cases h2:c.kind=2
  ·try simp -implicitDefEqProofs (disch:=first|exact dsc|fail)[cellV,hv,h1,h2]
   exact kEnd_back (by simp) (.bool _) (by simpa[h1,h2]using hq)
  ·try simp -implicitDefEqProofs (disch:=first|exact dsc|fail)[cellV,hv,h1,h2]
   exact kEnd_back (by simp) (.bool _) (by simpa[h1,h2]using hq)
end
def within(n m:Int):Bool:=decide (0<=n)&&decide (n<=m)
def pThere(a b c:Int):Bool:=within a 15&&within b 7&&within c 255
theorem there_spec{s:St}{Q:Post}{a b c:Int}(hq:Q (.bool (pThere a b c)) s):CC X 114 [.agg #[.int .i64 a,.int .i64 b,.int .i64 c]] Q s:=by
 refine f114xin rfl ?_;unfold pThere at hq
 try simp -implicitDefEqProofs (disch:=first|exact dsc|fail)[]
 refine within_spec ?_;by_cases h1:within a 15=true
 ·have h1':=h1;unfold within at h1'
  try simp -implicitDefEqProofs (disch:=first|exact dsc|fail)[h1']
  refine within_spec ?_;by_cases h2:within b 7=true
  ·have h2':=h2;unfold within at h2'
   try simp -implicitDefEqProofs (disch:=first|exact dsc|fail)[h1',h2']
   refine within_spec ?_
   try simp -implicitDefEqProofs (disch:=first|exact dsc|fail)[h1',h2']
   rw[h1,h2]at hq;exact kEnd_back (by simp) (.bool _) (by simpa[within]using hq)
  ·have h2':=h2;unfold within at h2'
   try simp -implicitDefEqProofs (disch:=first|exact dsc|fail)[h1',h2']
   exact kEnd_back (by simp) (.bool _) (by simpa[h1,h2]using hq)
 ·have h1':=h1;unfold within at h1'
  try simp -implicitDefEqProofs (disch:=first|exact dsc|fail)[h1']
  exact kEnd_back (by simp) (.bool _) (by simpa[h1]using hq)
theorem Equal_spec{s:St}{Q:Post}{xs ys:List Int}{v u:Value}(h1:(intE .u8).In s v xs)(h2:(intE .u8).In s u ys)(hq:Q (.bool ((bytesL .empty xs).toList==(bytesL .empty ys).toList)) s):CC X 113 [v,u] Q s:=by
 refine f113xin rfl ?_
 try simp -implicitDefEqProofs (disch:=first|exact dsc|fail)[strV_in h1.sl,strV_in h2.sl,binV,strOp]
 exact hq
theorem gW_within1{b:Bool}{n m:Int}{k:Post}{s:St}(hk:k (onlyIf b (.bool (within n m))) s):gW (some b) (fun k s=>callF P (calls X) (fv 74) [onlyIf b (.int .i64 n),.int .i64 m] k s) k s:=by
 refine gW_call (.bool (within n m)) (fun hb k2 hk2=>?_) hk;subst hb;simp -implicitDefEqProofs (disch:=first|exact dsc|fail)[];exact within_spec hk2
theorem gW_within2{b:Bool}{n m:Int}{k:Post}{s:St}(hk:k (onlyIf b (.bool (within n m))) s):gW (some b) (fun k s=>callF P (calls X) (fv 74) [onlyIf b (.int .i64 n),onlyIf b (.int .i64 m)] k s) k s:=by
 refine gW_call (.bool (within n m)) (fun hb k2 hk2=>?_) hk;subst hb;simp -implicitDefEqProofs (disch:=first|exact dsc|fail)[];exact within_spec hk2
def cElder(c:CellM):Bool:=decide (1<=c.ref)&&decide (c.ref<c.num)
def cBranch(c:CellM):Bool:=decide (1<=c.branch)&&decide (c.branch<16)
def cFields(c:CellM):Bool:=
 if c.kind=1 then pThere c.branch c.vol c.blk&&decide (c.ref<=1)&&decide ((c.body.length:Int)=32)
 else if c.kind=2 then pThere c.branch c.vol c.blk&&cElder c
 else if c.kind=3 then pThere c.branch c.vol c.blk&&cElder c&&decide (1<=(c.body.length:Int))&&decide ((c.body.length:Int)<=20)
 else if c.kind=4 then cBranch c&&within c.vol 15&&!decide (c.vol=c.branch)&&decide (c.blk=0)&&cElder c
 else if c.kind=5 then cBranch c&&decide (c.vol=0)&&decide (c.blk=0)
 else if c.kind=6 then decide (1<=c.ref)&&decide (c.ref<=65535)&&within c.from c.to&&within c.to 1073741824&&within c.until_ 1073741824
 else if c.kind=7 then decide (1<=c.ref)&&decide (c.ref<=65535)
 else true
theorem fields_spec{s:St}{Q:Post}{c:CellM}{v:Value}(hv:(intE .u8).In s v c.body)(hq:Q (.bool (cFields c)) s):CC X 75 [cellV c v] Q s:=by
 refine f75xin rfl ?_;have hd:=hv.data;have o1:Old s (s.alloc (.cells (cellL c v) false)):=by simp
 have hl:=fun S=>hv.len (P:=P) (s':=S) y_P_underlying_47;by_cases k1:c.kind=1
 ·try simp -implicitDefEqProofs (disch:=first|exact dsc|fail)[cellV,hd,k1,hl]
  refine there_spec ?_;simp only[cFields,k1,if_true]at hq;by_cases g1:pThere c.branch c.vol c.blk=true
  ·by_cases g2:c.ref<=1
   ·try simp -implicitDefEqProofs (disch:=first|exact dsc|fail)[g1,g2,hl]
    exact kEnd_back (by simp) (.bool _) (by simpa[g1,g2]using hq)
   ·try simp -implicitDefEqProofs (disch:=first|exact dsc|fail)[g1,g2,hl]
    exact kEnd_back (by simp) (.bool _) (by simpa[g1,g2]using hq)
  ·try simp -implicitDefEqProofs (disch:=first|exact dsc|fail)[g1]
   exact kEnd_back (by simp) (.bool _) (by simpa[g1]using hq)
 ·by_cases k2:c.kind=2
  ·try simp -implicitDefEqProofs (disch:=first|exact dsc|fail)[cellV,hd,k2,hl]
   refine there_spec ?_
   try simp -implicitDefEqProofs (disch:=first|exact dsc|fail)[hl]
   exact kEnd_back (by simp) (.bool _) (by simpa[cFields,k2,cElder]using hq)
  ·by_cases k3:c.kind=3
   ·try simp -implicitDefEqProofs (disch:=first|exact dsc|fail)[cellV,hd,k3,hl]
    refine there_spec ?_
    try simp -implicitDefEqProofs (disch:=first|exact dsc|fail)[hl]
    exact kEnd_back (by simp) (.bool _) (by simpa[cFields,k3,cElder]using hq)
   ·by_cases k4:c.kind=4
    ·try simp -implicitDefEqProofs (disch:=first|exact dsc|fail)[cellV,hd,k4,hl]
     refine gW_within1 ?_
     try simp -implicitDefEqProofs (disch:=first|exact dsc|fail)[]
     exact kEnd_back (by simp) (.bool _) (by simpa[cFields,k4,cElder,cBranch]using hq)
    ·by_cases k5:c.kind=5
     ·try simp -implicitDefEqProofs (disch:=first|exact dsc|fail)[cellV,hd,k5,hl]
      exact kEnd_back (by simp) (.bool _) (by simpa[cFields,k5,cElder,cBranch]using hq)
     ·by_cases k6:c.kind=6
      ·try simp -implicitDefEqProofs (disch:=first|exact dsc|fail)[cellV,hd,k6,hl]
       refine gW_within2 ?_
       try simp -implicitDefEqProofs (disch:=first|exact dsc|fail)[]
       refine gW_within1 ?_
       try simp -implicitDefEqProofs (disch:=first|exact dsc|fail)[]
       refine gW_within1 ?_
       try simp -implicitDefEqProofs (disch:=first|exact dsc|fail)[]
       exact kEnd_back (by simp) (.bool _) (by simpa[cFields,k6]using hq)
      ·by_cases k7:c.kind=7
       ·try simp -implicitDefEqProofs (disch:=first|exact dsc|fail)[cellV,hd,k7,hl]
        exact kEnd_back (by simp) (.bool _) (by simpa[cFields,k7]using hq)
       ·try simp -implicitDefEqProofs (disch:=first|exact dsc|fail)[cellV,hd,k1,k2,k3,k4,k5,k6,k7,hl]
        exact kEnd_back (by simp) (.bool _) (by simpa[cFields,k1,k2,k3,k4,k5,k6,k7]using hq)
def cSame(a b:CellM):Bool:=((bytesL .empty a.body).toList==(bytesL .empty b.body).toList)&&decide (a.kind=b.kind)&&decide (a.num=b.num)&&decide (a.min=b.min)&&(decide (a.branch=b.branch)&&(decide (a.vol=b.vol)&&decide (a.blk=b.blk)))&&decide (a.ref=b.ref)&&decide (a.from=b.from)&&decide (a.to=b.to)&&decide (a.until_=b.until_)
theorem eqc_place(a b c a' b' c':Int):binV P .eql 46 (.agg #[.int .i64 a,.int .i64 b,.int .i64 c]) (.agg #[.int .i64 a',.int .i64 b',.int .i64 c'])=some (.bool (decide (a=a')&&(decide (b=b')&&decide (c=c')))):=by
 have:binV P .eql 46 (.agg #[.int .i64 a,.int .i64 b,.int .i64 c]) (.agg #[.int .i64 a',.int .i64 b',.int .i64 c'])=some (.bool ((a==a')&&((b==b')&&((c==c')&&true)))):=by kernel_rfl
 rw[this,Bool.and_true,Bool.beq_eq_decide_eq,Bool.beq_eq_decide_eq,Bool.beq_eq_decide_eq]
theorem Same_spec{s:St}{Q:Post}{a b:CellM}{v u:Value}(hv:(intE .u8).In s v a.body)(hu:(intE .u8).In s u b.body)(hq:Q (.bool (cSame a b)) s):CC X 73 [cellV a v,cellV b u] Q s:=by
 refine f73xin rfl ?_;have hd:=hv.data;have hd2:=hu.data;unfold cellV
 try simp -implicitDefEqProofs (disch:=first|exact dsc|fail)[hd,hd2]
 refine Equal_spec (hv.old (by repeat (first|exact Old.refl _|apply Old.alloc))) (hu.old (by repeat (first|exact Old.refl _|apply Old.alloc))) ?_
 try simp -implicitDefEqProofs (disch:=first|exact dsc|fail)[eqc_place]
 exact kEnd_back (by simp) (.bool _) hq
def cKept(c:CellM):CellM:=⟨c.kind,c.num,c.min,if hPlace c.kind then c.branch else 0,if hPlace c.kind then c.vol else 0,if hPlace c.kind then c.blk else 0,if hRef c.kind then c.ref else 0,
 if hMins c.kind then c.from else 0,if hMins c.kind then c.to else 0,if hMins c.kind then c.until_ else 0,if hBody c.kind then c.body else []⟩
def cRight(c:CellM):Bool:=hKind c.kind&&cSame c (cKept c)&&decide (1<=c.num)&&decide (c.num<=65535)&&within c.min 1073741824&&cFields c
theorem gW_same{b:Bool}{c d:CellM}{u v:Value}{k:Post}{s:St}(h1:(intE .u8).In s v c.body)(h2:(intE .u8).In s u d.body)(hk:k (onlyIf b (.bool (cSame c d))) s) :
  gW (some b) (fun k s=>callF P (calls X) (fv 73) [onlyIf b (cellV c v),onlyIf b (cellV d u)] k s) k s:=by
 refine gW_call (.bool (cSame c d)) (fun hb k2 hk2=>?_) hk;subst hb;simp -implicitDefEqProofs (disch:=first|exact dsc|fail)[];exact Same_spec h1 h2 hk2
theorem gW_fields{b:Bool}{c:CellM}{v:Value}{k:Post}{s:St}(h1:(intE .u8).In s v c.body)(hk:k (onlyIf b (.bool (cFields c))) s) :
  gW (some b) (fun k s=>callF P (calls X) (fv 75) [onlyIf b (cellV c v)] k s) k s:=by
 refine gW_call (.bool (cFields c)) (fun hb k2 hk2=>?_) hk;subst hb;simp -implicitDefEqProofs (disch:=first|exact dsc|fail)[];exact fields_spec h1 hk2
def cKp(b1 b2 b3 b4:Bool)(c:CellM):CellM:=⟨c.kind,c.num,c.min,if b1 then c.branch else 0,if b1 then c.vol else 0,if b1 then c.blk else 0,if b2 then c.ref else 0,
 if b3 then c.from else 0,if b3 then c.to else 0,if b3 then c.until_ else 0,if b4 then c.body else []⟩
theorem RightJ1{s S:St}{Q:Post}{c d:CellM}{v u:Value}{b1 b5:Nat}{bb:Bool}(hv:(intE .u8).In S v c.body)(hu:(intE .u8).In S u d.body)(h1:S.heap b1=some (.cells (cellL c v) false))(h5:S.heap b5=some (.cells (cellL d u) false))(o1:Old s S)
  (hq:Q (.bool (bb&&cSame c d&&decide (1<=c.num)&&decide (c.num<=65535)&&within c.min 1073741824&&cFields c)) s):f41xJ1 (CC X) Q s (.pointer (some ⟨b1,0,none⟩)) (.bool bb) (.pointer (some ⟨b5,0,none⟩)) S:=by
 unfold cellL at h1 h5
 try simp -implicitDefEqProofs (disch:=first|exact dsc|fail)[h1,h5]
 refine gW_same (c:=c) (d:=d) hv hu ?_
 try simp -implicitDefEqProofs (disch:=first|exact dsc|fail)[h1,h5]
 refine gW_within1 ?_
 try simp -implicitDefEqProofs (disch:=first|exact dsc|fail)[h1,h5]
 refine gW_fields (c:=c) hv ?_
 try simp -implicitDefEqProofs (disch:=first|exact dsc|fail)[]
 exact kEnd_back o1 (.bool _) hq
theorem Right_spec{s:St}{Q:Post}{c:CellM}{v:Value}(hv:(intE .u8).In s v c.body)(hq:Q (.bool (cRight c)) s):CC X 41 [cellV c v] Q s:=by
 refine f41xin rfl ?_;have hd:=hv.data;unfold cellV
 try simp -implicitDefEqProofs (disch:=first|exact dsc|fail)[-f41xJ1,-f41xJ2,-f41xJ3,-f41xJ4,hd]
 refine has_spec ?_;have hq:Q (.bool (hKind c.kind&&cSame c (cKp (hPlace c.kind) (hRef c.kind) (hMins c.kind) (hBody c.kind) c)&&decide (1<=c.num)&&decide (c.num<=65535)&&within c.min 1073741824&&cFields c)) s:=hq;generalize hPlace c.kind=b1 at *;generalize hRef c.kind=b2 at *;generalize hMins c.kind=b3 at *;generalize hBody c.kind=b4 at *;generalize hKind c.kind=b5 at *;cases b1<;>cases b2<;>cases b3<;>cases b4
 ·try simp -implicitDefEqProofs (disch:=first|exact dsc|fail)[hd,-f41xJ1]
  exact RightJ1 (d:=cKp false false false false c) (hv.old (by repeat (first|exact Old.refl _|apply Old.alloc))) (.nil) (by simp -implicitDefEqProofs (disch:=first|exact dsc|fail)[cellL]) (by rw[St.alloc_at (by simp)];rfl) (by repeat (first|exact Old.refl _|apply Old.alloc)) hq
 ·try simp -implicitDefEqProofs (disch:=first|exact dsc|fail)[hd,-f41xJ1]
  exact RightJ1 (d:=cKp false false false true c) (hv.old (by repeat (first|exact Old.refl _|apply Old.alloc))) (hv.old (by repeat (first|exact Old.refl _|apply Old.alloc))) (by simp -implicitDefEqProofs (disch:=first|exact dsc|fail)[cellL]) (by rw[St.alloc_at (by simp)];rfl) (by repeat (first|exact Old.refl _|apply Old.alloc)) hq
 ·try simp -implicitDefEqProofs (disch:=first|exact dsc|fail)[hd,-f41xJ1]
  exact RightJ1 (d:=cKp false false true false c) (hv.old (by repeat (first|exact Old.refl _|apply Old.alloc))) (.nil) (by simp -implicitDefEqProofs (disch:=first|exact dsc|fail)[cellL]) (by rw[St.alloc_at (by simp)];rfl) (by repeat (first|exact Old.refl _|apply Old.alloc)) hq
 ·try simp -implicitDefEqProofs (disch:=first|exact dsc|fail)[hd,-f41xJ1]
  exact RightJ1 (d:=cKp false false true true c) (hv.old (by repeat (first|exact Old.refl _|apply Old.alloc))) (hv.old (by repeat (first|exact Old.refl _|apply Old.alloc))) (by simp -implicitDefEqProofs (disch:=first|exact dsc|fail)[cellL]) (by rw[St.alloc_at (by simp)];rfl) (by repeat (first|exact Old.refl _|apply Old.alloc)) hq
 ·try simp -implicitDefEqProofs (disch:=first|exact dsc|fail)[hd,-f41xJ1]
  exact RightJ1 (d:=cKp false true false false c) (hv.old (by repeat (first|exact Old.refl _|apply Old.alloc))) (.nil) (by simp -implicitDefEqProofs (disch:=first|exact dsc|fail)[cellL]) (by rw[St.alloc_at (by simp)];rfl) (by repeat (first|exact Old.refl _|apply Old.alloc)) hq
 ·try simp -implicitDefEqProofs (disch:=first|exact dsc|fail)[hd,-f41xJ1]
  exact RightJ1 (d:=cKp false true false true c) (hv.old (by repeat (first|exact Old.refl _|apply Old.alloc))) (hv.old (by repeat (first|exact Old.refl _|apply Old.alloc))) (by simp -implicitDefEqProofs (disch:=first|exact dsc|fail)[cellL]) (by rw[St.alloc_at (by simp)];rfl) (by repeat (first|exact Old.refl _|apply Old.alloc)) hq
 ·try simp -implicitDefEqProofs (disch:=first|exact dsc|fail)[hd,-f41xJ1]
  exact RightJ1 (d:=cKp false true true false c) (hv.old (by repeat (first|exact Old.refl _|apply Old.alloc))) (.nil) (by simp -implicitDefEqProofs (disch:=first|exact dsc|fail)[cellL]) (by rw[St.alloc_at (by simp)];rfl) (by repeat (first|exact Old.refl _|apply Old.alloc)) hq
 ·try simp -implicitDefEqProofs (disch:=first|exact dsc|fail)[hd,-f41xJ1]
  exact RightJ1 (d:=cKp false true true true c) (hv.old (by repeat (first|exact Old.refl _|apply Old.alloc))) (hv.old (by repeat (first|exact Old.refl _|apply Old.alloc))) (by simp -implicitDefEqProofs (disch:=first|exact dsc|fail)[cellL]) (by rw[St.alloc_at (by simp)];rfl) (by repeat (first|exact Old.refl _|apply Old.alloc)) hq
 ·try simp -implicitDefEqProofs (disch:=first|exact dsc|fail)[hd,-f41xJ1]
  exact RightJ1 (d:=cKp true false false false c) (hv.old (by repeat (first|exact Old.refl _|apply Old.alloc))) (.nil) (by simp -implicitDefEqProofs (disch:=first|exact dsc|fail)[cellL]) (by rw[St.alloc_at (by simp)];rfl) (by repeat (first|exact Old.refl _|apply Old.alloc)) hq
 ·try simp -implicitDefEqProofs (disch:=first|exact dsc|fail)[hd,-f41xJ1]
  exact RightJ1 (d:=cKp true false false true c) (hv.old (by repeat (first|exact Old.refl _|apply Old.alloc))) (hv.old (by repeat (first|exact Old.refl _|apply Old.alloc))) (by simp -implicitDefEqProofs (disch:=first|exact dsc|fail)[cellL]) (by rw[St.alloc_at (by simp)];rfl) (by repeat (first|exact Old.refl _|apply Old.alloc)) hq
 ·try simp -implicitDefEqProofs (disch:=first|exact dsc|fail)[hd,-f41xJ1]
  exact RightJ1 (d:=cKp true false true false c) (hv.old (by repeat (first|exact Old.refl _|apply Old.alloc))) (.nil) (by simp -implicitDefEqProofs (disch:=first|exact dsc|fail)[cellL]) (by rw[St.alloc_at (by simp)];rfl) (by repeat (first|exact Old.refl _|apply Old.alloc)) hq
 ·try simp -implicitDefEqProofs (disch:=first|exact dsc|fail)[hd,-f41xJ1]
  exact RightJ1 (d:=cKp true false true true c) (hv.old (by repeat (first|exact Old.refl _|apply Old.alloc))) (hv.old (by repeat (first|exact Old.refl _|apply Old.alloc))) (by simp -implicitDefEqProofs (disch:=first|exact dsc|fail)[cellL]) (by rw[St.alloc_at (by simp)];rfl) (by repeat (first|exact Old.refl _|apply Old.alloc)) hq
 ·try simp -implicitDefEqProofs (disch:=first|exact dsc|fail)[hd,-f41xJ1]
  exact RightJ1 (d:=cKp true true false false c) (hv.old (by repeat (first|exact Old.refl _|apply Old.alloc))) (.nil) (by simp -implicitDefEqProofs (disch:=first|exact dsc|fail)[cellL]) (by rw[St.alloc_at (by simp)];rfl) (by repeat (first|exact Old.refl _|apply Old.alloc)) hq
 ·try simp -implicitDefEqProofs (disch:=first|exact dsc|fail)[hd,-f41xJ1]
  exact RightJ1 (d:=cKp true true false true c) (hv.old (by repeat (first|exact Old.refl _|apply Old.alloc))) (hv.old (by repeat (first|exact Old.refl _|apply Old.alloc))) (by simp -implicitDefEqProofs (disch:=first|exact dsc|fail)[cellL]) (by rw[St.alloc_at (by simp)];rfl) (by repeat (first|exact Old.refl _|apply Old.alloc)) hq
 ·try simp -implicitDefEqProofs (disch:=first|exact dsc|fail)[hd,-f41xJ1]
  exact RightJ1 (d:=cKp true true true false c) (hv.old (by repeat (first|exact Old.refl _|apply Old.alloc))) (.nil) (by simp -implicitDefEqProofs (disch:=first|exact dsc|fail)[cellL]) (by rw[St.alloc_at (by simp)];rfl) (by repeat (first|exact Old.refl _|apply Old.alloc)) hq
 ·try simp -implicitDefEqProofs (disch:=first|exact dsc|fail)[hd,-f41xJ1]
  exact RightJ1 (d:=cKp true true true true c) (hv.old (by repeat (first|exact Old.refl _|apply Old.alloc))) (hv.old (by repeat (first|exact Old.refl _|apply Old.alloc))) (by simp -implicitDefEqProofs (disch:=first|exact dsc|fail)[cellL]) (by rw[St.alloc_at (by simp)];rfl) (by repeat (first|exact Old.refl _|apply Old.alloc)) hq
end Go.Zz
