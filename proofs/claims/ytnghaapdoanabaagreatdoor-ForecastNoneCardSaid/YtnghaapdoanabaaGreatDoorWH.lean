import Derived.Test.YtnghaapdoanabaaGreatDoorWG
set_option linter.all false
set_option maxRecDepth 20000
set_option linter.all false
namespace Go.Zz
open Go
variable {X : Y0}
structure A1k where
 kind:Int
 num:Int
 min:Int
 branch:Int
 vol:Int
 blk:Int
 ref:Int
 «from»:Int
 to:Int
 until_:Int
 body:List Int
def A1z(c:A1k)(v:Value):List Value:=[.int .i64 c.kind,.int .u64 c.num,.int .i64 c.min,.int .i64 c.branch,.int .i64 c.vol,.int .i64 c.blk,.int .u64 c.ref,.int .i64 c.from,.int .i64 c.to,.int .i64 c.until_,v]
def A1r(c:A1k)(v:Value):Value:=.agg #[.int .i64 c.kind,.int .u64 c.num,.int .i64 c.min,.int .i64 c.branch,.int .i64 c.vol,.int .i64 c.blk,.int .u64 c.ref,.int .i64 c.from,.int .i64 c.to,.int .i64 c.until_,v]
def A97(k:Int):Bool:=decide (1<=k)&&decide (k<=5)
def hRef(k:Int):Bool:=decide (1<=k)&&decide (k<=7)&&!decide (k=5)
def B6g(k:Int):Bool:=decide (k=6)
def B6d(k:Int):Bool:=decide (k=1)||decide (k=3)
def B6h(k:Int):Bool:=decide (1<=k)&&decide (k<=8)
section
variable {s : St} {Q : Post} {c : A1k} {v : Value}
theorem E42{k:Int}(hq:Q (.tuple #[.agg #[.bool (A97 k),.bool (hRef k),.bool (B6g k),.bool (B6d k)],.bool (B6h k)]) s):CC X 72 [.int .i64 k] Q s:=by
 refine G6x rfl ?_;have hk:k=1\/k=2\/k=3\/k=4\/k=5\/k=6\/k=7\/k=8\/(k≠1/\k≠2/\k≠3/\k≠4/\k≠5/\k≠6/\k≠7/\k≠8):=by omega
 rcases hk with rfl|rfl|rfl|rfl|rfl|rfl|rfl|rfl|⟨h1,h2,h3,h4,h5,h6,h7,h8⟩
 iterate 8
  ·try simp -implicitDefEqProofs (disch:=first|exact dsc|fail)[]
   exact A0b (by simp) (A0p (by simp)) (by simpa[A97,hRef,B6g,B6d,B6h]using hq)
 ·try simp -implicitDefEqProofs (disch:=first|exact dsc|fail)[h1,h2,h3,h4,h5,h6,h7,h8]
  refine A0b (by simp) (A0p (by simp)) ?_
  have e1:A97 k=false:=by simp[A97];omega
  have e2:hRef k=false:=by simp[hRef];omega
  have e3:B6g k=false:=by simp[B6g,h6]
  have e4:B6d k=false:=by simp[B6d,h1,h3]
  have e5:B6h k=false:=by simp[B6h];omega
  rw[e1,e2,e3,e4,e5]at hq;exact hq
theorem A6y{n m:Int}(hq:Q (.bool (decide (0<=n)&&decide (n<=m))) s):CC X 74 [.int .i64 n,.int .i64 m] Q s:=by
 refine G52 rfl ?_;by_cases h:0<=n
 ·try simp -implicitDefEqProofs (disch:=first|exact dsc|fail)[h]
  simpa[h]using hq
 ·try simp -implicitDefEqProofs (disch:=first|exact dsc|fail)[h]
  simpa[h]using hq
theorem B00(hq:Q (.bool (decide (c.kind=1)||decide (c.kind=2)||decide (c.kind=3))) s)(hv:data v=true/\v.cells=#[v]):CC X 42 [A1r c v] Q s:=by
 refine G6k rfl ?_;by_cases h1:c.kind=1
 ·try simp -implicitDefEqProofs (disch:=first|exact dsc|fail)[A1r,hv,h1]
  exact A0b (by simp) (.bool _) (by simpa[h1]using hq)
 ·by_cases h2:c.kind=2
  ·try simp -implicitDefEqProofs (disch:=first|exact dsc|fail)[A1r,hv,h1,h2]
   exact A0b (by simp) (.bool _) (by simpa[h1,h2]using hq)
  ·try simp -implicitDefEqProofs (disch:=first|exact dsc|fail)[A1r,hv,h1,h2]
   exact A0b (by simp) (.bool _) (by simpa[h1,h2]using hq)
end
def A3n(n m:Int):Bool:=decide (0<=n)&&decide (n<=m)
def B1h(a b c:Int):Bool:=A3n a 15&&A3n b 7&&A3n c 255
theorem B3c{s:St}{Q:Post}{a b c:Int}(hq:Q (.bool (B1h a b c)) s):CC X 114 [.agg #[.int .i64 a,.int .i64 b,.int .i64 c]] Q s:=by
 refine F2m rfl ?_;unfold B1h at hq
 try simp -implicitDefEqProofs (disch:=first|exact dsc|fail)[]
 refine A6y ?_;by_cases h1:A3n a 15=true
 ·have h1':=h1;unfold A3n at h1'
  try simp -implicitDefEqProofs (disch:=first|exact dsc|fail)[h1']
  refine A6y ?_;by_cases h2:A3n b 7=true
  ·have h2':=h2;unfold A3n at h2'
   try simp -implicitDefEqProofs (disch:=first|exact dsc|fail)[h1',h2']
   refine A6y ?_
   try simp -implicitDefEqProofs (disch:=first|exact dsc|fail)[h1',h2']
   rw[h1,h2]at hq;exact A0b (by simp) (.bool _) (by simpa[A3n]using hq)
  ·have h2':=h2;unfold A3n at h2'
   try simp -implicitDefEqProofs (disch:=first|exact dsc|fail)[h1',h2']
   exact A0b (by simp) (.bool _) (by simpa[h1,h2]using hq)
 ·have h1':=h1;unfold A3n at h1'
  try simp -implicitDefEqProofs (disch:=first|exact dsc|fail)[h1']
  exact A0b (by simp) (.bool _) (by simpa[h1]using hq)
theorem C83{s:St}{Q:Post}{xs ys:List Int}{v u:Value}(h1:(intE .u8).In s v xs)(h2:(intE .u8).In s u ys)(hq:Q (.bool ((B17 .empty xs).toList==(B17 .empty ys).toList)) s):CC X 113 [v,u] Q s:=by
 refine F3b rfl ?_
 try simp -implicitDefEqProofs (disch:=first|exact dsc|fail)[D2r h1.sl,D2r h2.sl,binV,E4r]
 exact hq
theorem A9n{b:Bool}{n m:Int}{k:Post}{s:St}(hk:k (A19 b (.bool (A3n n m))) s):gW (some b) (fun k s=>A0u P (calls X) (fv 74) [A19 b (.int .i64 n),.int .i64 m] k s) k s:=by
 refine B20 (.bool (A3n n m)) (fun hb k2 hk2=>?_) hk;subst hb;simp -implicitDefEqProofs (disch:=first|exact dsc|fail)[];exact A6y hk2
theorem D0q{b:Bool}{n m:Int}{k:Post}{s:St}(hk:k (A19 b (.bool (A3n n m))) s):gW (some b) (fun k s=>A0u P (calls X) (fv 74) [A19 b (.int .i64 n),A19 b (.int .i64 m)] k s) k s:=by
 refine B20 (.bool (A3n n m)) (fun hb k2 hk2=>?_) hk;subst hb;simp -implicitDefEqProofs (disch:=first|exact dsc|fail)[];exact A6y hk2
def B5k(c:A1k):Bool:=decide (1<=c.ref)&&decide (c.ref<c.num)
def C09(c:A1k):Bool:=decide (1<=c.branch)&&decide (c.branch<16)
def A3v(c:A1k):Bool:=
 if c.kind=1 then B1h c.branch c.vol c.blk&&decide (c.ref<=1)&&decide ((c.body.length:Int)=32)
 else if c.kind=2 then B1h c.branch c.vol c.blk&&B5k c
 else if c.kind=3 then B1h c.branch c.vol c.blk&&B5k c&&decide (1<=(c.body.length:Int))&&decide ((c.body.length:Int)<=20)
 else if c.kind=4 then C09 c&&A3n c.vol 15&&!decide (c.vol=c.branch)&&decide (c.blk=0)&&B5k c
 else if c.kind=5 then C09 c&&decide (c.vol=0)&&decide (c.blk=0)
 else if c.kind=6 then decide (1<=c.ref)&&decide (c.ref<=65535)&&A3n c.from c.to&&A3n c.to 1073741824&&A3n c.until_ 1073741824
 else if c.kind=7 then decide (1<=c.ref)&&decide (c.ref<=65535)
 else true
theorem C4s{s:St}{Q:Post}{c:A1k}{v:Value}(hv:(intE .u8).In s v c.body)(hq:Q (.bool (A3v c)) s):CC X 75 [A1r c v] Q s:=by
 refine H09 rfl ?_;have hd:=hv.data;have o1:Old s (s.alloc (.cells (A1z c v) false)):=by simp
 have hl:=fun S=>hv.len (P:=P) (s':=S) A73;by_cases k1:c.kind=1
 ·try simp -implicitDefEqProofs (disch:=first|exact dsc|fail)[A1r,hd,k1,hl]
  refine B3c ?_;simp only[A3v,k1,if_true]at hq;by_cases g1:B1h c.branch c.vol c.blk=true
  ·by_cases g2:c.ref<=1
   ·try simp -implicitDefEqProofs (disch:=first|exact dsc|fail)[g1,g2,hl]
    exact A0b (by simp) (.bool _) (by simpa[g1,g2]using hq)
   ·try simp -implicitDefEqProofs (disch:=first|exact dsc|fail)[g1,g2,hl]
    exact A0b (by simp) (.bool _) (by simpa[g1,g2]using hq)
  ·try simp -implicitDefEqProofs (disch:=first|exact dsc|fail)[g1]
   exact A0b (by simp) (.bool _) (by simpa[g1]using hq)
 ·by_cases k2:c.kind=2
  ·try simp -implicitDefEqProofs (disch:=first|exact dsc|fail)[A1r,hd,k2,hl]
   refine B3c ?_
   try simp -implicitDefEqProofs (disch:=first|exact dsc|fail)[hl]
   exact A0b (by simp) (.bool _) (by simpa[A3v,k2,B5k]using hq)
  ·by_cases k3:c.kind=3
   ·try simp -implicitDefEqProofs (disch:=first|exact dsc|fail)[A1r,hd,k3,hl]
    refine B3c ?_
    try simp -implicitDefEqProofs (disch:=first|exact dsc|fail)[hl]
    exact A0b (by simp) (.bool _) (by simpa[A3v,k3,B5k]using hq)
   ·by_cases k4:c.kind=4
    ·try simp -implicitDefEqProofs (disch:=first|exact dsc|fail)[A1r,hd,k4,hl]
     refine A9n ?_
     try simp -implicitDefEqProofs (disch:=first|exact dsc|fail)[]
     exact A0b (by simp) (.bool _) (by simpa[A3v,k4,B5k,C09]using hq)
    ·by_cases k5:c.kind=5
     ·try simp -implicitDefEqProofs (disch:=first|exact dsc|fail)[A1r,hd,k5,hl]
      exact A0b (by simp) (.bool _) (by simpa[A3v,k5,B5k,C09]using hq)
     ·by_cases k6:c.kind=6
      ·try simp -implicitDefEqProofs (disch:=first|exact dsc|fail)[A1r,hd,k6,hl]
       refine D0q ?_
       try simp -implicitDefEqProofs (disch:=first|exact dsc|fail)[]
       refine A9n ?_
       try simp -implicitDefEqProofs (disch:=first|exact dsc|fail)[]
       refine A9n ?_
       try simp -implicitDefEqProofs (disch:=first|exact dsc|fail)[]
       exact A0b (by simp) (.bool _) (by simpa[A3v,k6]using hq)
      ·by_cases k7:c.kind=7
       ·try simp -implicitDefEqProofs (disch:=first|exact dsc|fail)[A1r,hd,k7,hl]
        exact A0b (by simp) (.bool _) (by simpa[A3v,k7]using hq)
       ·try simp -implicitDefEqProofs (disch:=first|exact dsc|fail)[A1r,hd,k1,k2,k3,k4,k5,k6,k7,hl]
        exact A0b (by simp) (.bool _) (by simpa[A3v,k1,k2,k3,k4,k5,k6,k7]using hq)
def C06(a b:A1k):Bool:=((B17 .empty a.body).toList==(B17 .empty b.body).toList)&&decide (a.kind=b.kind)&&decide (a.num=b.num)&&decide (a.min=b.min)&&(decide (a.branch=b.branch)&&(decide (a.vol=b.vol)&&decide (a.blk=b.blk)))&&decide (a.ref=b.ref)&&decide (a.from=b.from)&&decide (a.to=b.to)&&decide (a.until_=b.until_)
theorem D80(a b c a' b' c':Int):binV P .eql 46 (.agg #[.int .i64 a,.int .i64 b,.int .i64 c]) (.agg #[.int .i64 a',.int .i64 b',.int .i64 c'])=some (.bool (decide (a=a')&&(decide (b=b')&&decide (c=c')))):=by
 have:binV P .eql 46 (.agg #[.int .i64 a,.int .i64 b,.int .i64 c]) (.agg #[.int .i64 a',.int .i64 b',.int .i64 c'])=some (.bool ((a==a')&&((b==b')&&((c==c')&&true)))):=by kernel_rfl
 rw[this,Bool.and_true,Bool.beq_eq_decide_eq,Bool.beq_eq_decide_eq,Bool.beq_eq_decide_eq]
theorem D89{s:St}{Q:Post}{a b:A1k}{v u:Value}(hv:(intE .u8).In s v a.body)(hu:(intE .u8).In s u b.body)(hq:Q (.bool (C06 a b)) s):CC X 73 [A1r a v,A1r b u] Q s:=by
 refine G9w rfl ?_;have hd:=hv.data;have hd2:=hu.data;unfold A1r
 try simp -implicitDefEqProofs (disch:=first|exact dsc|fail)[hd,hd2]
 refine C83 (hv.old (by repeat (first|exact Old.refl _|apply Old.alloc))) (hu.old (by repeat (first|exact Old.refl _|apply Old.alloc))) ?_
 try simp -implicitDefEqProofs (disch:=first|exact dsc|fail)[D80]
 exact A0b (by simp) (.bool _) hq
def E3f(c:A1k):A1k:=⟨c.kind,c.num,c.min,if A97 c.kind then c.branch else 0,if A97 c.kind then c.vol else 0,if A97 c.kind then c.blk else 0,if hRef c.kind then c.ref else 0,
 if B6g c.kind then c.from else 0,if B6g c.kind then c.to else 0,if B6g c.kind then c.until_ else 0,if B6d c.kind then c.body else []⟩
def A6t(c:A1k):Bool:=B6h c.kind&&C06 c (E3f c)&&decide (1<=c.num)&&decide (c.num<=65535)&&A3n c.min 1073741824&&A3v c
theorem F44{b:Bool}{c d:A1k}{u v:Value}{k:Post}{s:St}(h1:(intE .u8).In s v c.body)(h2:(intE .u8).In s u d.body)(hk:k (A19 b (.bool (C06 c d))) s) :
  gW (some b) (fun k s=>A0u P (calls X) (fv 73) [A19 b (A1r c v),A19 b (A1r d u)] k s) k s:=by
 refine B20 (.bool (C06 c d)) (fun hb k2 hk2=>?_) hk;subst hb;simp -implicitDefEqProofs (disch:=first|exact dsc|fail)[];exact D89 h1 h2 hk2
theorem D63{b:Bool}{c:A1k}{v:Value}{k:Post}{s:St}(h1:(intE .u8).In s v c.body)(hk:k (A19 b (.bool (A3v c))) s) :
  gW (some b) (fun k s=>A0u P (calls X) (fv 75) [A19 b (A1r c v)] k s) k s:=by
 refine B20 (.bool (A3v c)) (fun hb k2 hk2=>?_) hk;subst hb;simp -implicitDefEqProofs (disch:=first|exact dsc|fail)[];exact C4s h1 hk2
def cKp(b1 b2 b3 b4:Bool)(c:A1k):A1k:=⟨c.kind,c.num,c.min,if b1 then c.branch else 0,if b1 then c.vol else 0,if b1 then c.blk else 0,if b2 then c.ref else 0,
 if b3 then c.from else 0,if b3 then c.to else 0,if b3 then c.until_ else 0,if b4 then c.body else []⟩
theorem A44{s S:St}{Q:Post}{c d:A1k}{v u:Value}{b1 b5:Nat}{bb:Bool}(hv:(intE .u8).In S v c.body)(hu:(intE .u8).In S u d.body)(h1:S.heap b1=some (.cells (A1z c v) false))(h5:S.heap b5=some (.cells (A1z d u) false))(o1:Old s S)
  (hq:Q (.bool (bb&&C06 c d&&decide (1<=c.num)&&decide (c.num<=65535)&&A3n c.min 1073741824&&A3v c)) s):A5e (CC X) Q s (.pointer (some ⟨b1,0,none⟩)) (.bool bb) (.pointer (some ⟨b5,0,none⟩)) S:=by
 unfold A1z at h1 h5
 try simp -implicitDefEqProofs (disch:=first|exact dsc|fail)[h1,h5]
 refine F44 (c:=c) (d:=d) hv hu ?_
 try simp -implicitDefEqProofs (disch:=first|exact dsc|fail)[h1,h5]
 refine A9n ?_
 try simp -implicitDefEqProofs (disch:=first|exact dsc|fail)[h1,h5]
 refine D63 (c:=c) hv ?_
 try simp -implicitDefEqProofs (disch:=first|exact dsc|fail)[]
 exact A0b o1 (.bool _) hq
theorem B60{s:St}{Q:Post}{c:A1k}{v:Value}(hv:(intE .u8).In s v c.body)(hq:Q (.bool (A6t c)) s):CC X 41 [A1r c v] Q s:=by
 refine G5l rfl ?_;have hd:=hv.data;unfold A1r
 try simp -implicitDefEqProofs (disch:=first|exact dsc|fail)[-A5e,-D7r,-D67,-D8t,hd]
 refine E42 ?_;have hq:Q (.bool (B6h c.kind&&C06 c (cKp (A97 c.kind) (hRef c.kind) (B6g c.kind) (B6d c.kind) c)&&decide (1<=c.num)&&decide (c.num<=65535)&&A3n c.min 1073741824&&A3v c)) s:=hq;generalize A97 c.kind=b1 at *;generalize hRef c.kind=b2 at *;generalize B6g c.kind=b3 at *;generalize B6d c.kind=b4 at *;generalize B6h c.kind=b5 at *;cases b1<;>cases b2<;>cases b3<;>cases b4
 ·try simp -implicitDefEqProofs (disch:=first|exact dsc|fail)[hd,-A5e]
  exact A44 (d:=cKp false false false false c) (hv.old (by repeat (first|exact Old.refl _|apply Old.alloc))) (.nil) (by simp -implicitDefEqProofs (disch:=first|exact dsc|fail)[A1z]) (by rw[St.alloc_at (by simp)];rfl) (by repeat (first|exact Old.refl _|apply Old.alloc)) hq
 ·try simp -implicitDefEqProofs (disch:=first|exact dsc|fail)[hd,-A5e]
  exact A44 (d:=cKp false false false true c) (hv.old (by repeat (first|exact Old.refl _|apply Old.alloc))) (hv.old (by repeat (first|exact Old.refl _|apply Old.alloc))) (by simp -implicitDefEqProofs (disch:=first|exact dsc|fail)[A1z]) (by rw[St.alloc_at (by simp)];rfl) (by repeat (first|exact Old.refl _|apply Old.alloc)) hq
 ·try simp -implicitDefEqProofs (disch:=first|exact dsc|fail)[hd,-A5e]
  exact A44 (d:=cKp false false true false c) (hv.old (by repeat (first|exact Old.refl _|apply Old.alloc))) (.nil) (by simp -implicitDefEqProofs (disch:=first|exact dsc|fail)[A1z]) (by rw[St.alloc_at (by simp)];rfl) (by repeat (first|exact Old.refl _|apply Old.alloc)) hq
 ·try simp -implicitDefEqProofs (disch:=first|exact dsc|fail)[hd,-A5e]
  exact A44 (d:=cKp false false true true c) (hv.old (by repeat (first|exact Old.refl _|apply Old.alloc))) (hv.old (by repeat (first|exact Old.refl _|apply Old.alloc))) (by simp -implicitDefEqProofs (disch:=first|exact dsc|fail)[A1z]) (by rw[St.alloc_at (by simp)];rfl) (by repeat (first|exact Old.refl _|apply Old.alloc)) hq
 ·try simp -implicitDefEqProofs (disch:=first|exact dsc|fail)[hd,-A5e]
  exact A44 (d:=cKp false true false false c) (hv.old (by repeat (first|exact Old.refl _|apply Old.alloc))) (.nil) (by simp -implicitDefEqProofs (disch:=first|exact dsc|fail)[A1z]) (by rw[St.alloc_at (by simp)];rfl) (by repeat (first|exact Old.refl _|apply Old.alloc)) hq
 ·try simp -implicitDefEqProofs (disch:=first|exact dsc|fail)[hd,-A5e]
  exact A44 (d:=cKp false true false true c) (hv.old (by repeat (first|exact Old.refl _|apply Old.alloc))) (hv.old (by repeat (first|exact Old.refl _|apply Old.alloc))) (by simp -implicitDefEqProofs (disch:=first|exact dsc|fail)[A1z]) (by rw[St.alloc_at (by simp)];rfl) (by repeat (first|exact Old.refl _|apply Old.alloc)) hq
 ·try simp -implicitDefEqProofs (disch:=first|exact dsc|fail)[hd,-A5e]
  exact A44 (d:=cKp false true true false c) (hv.old (by repeat (first|exact Old.refl _|apply Old.alloc))) (.nil) (by simp -implicitDefEqProofs (disch:=first|exact dsc|fail)[A1z]) (by rw[St.alloc_at (by simp)];rfl) (by repeat (first|exact Old.refl _|apply Old.alloc)) hq
 ·try simp -implicitDefEqProofs (disch:=first|exact dsc|fail)[hd,-A5e]
  exact A44 (d:=cKp false true true true c) (hv.old (by repeat (first|exact Old.refl _|apply Old.alloc))) (hv.old (by repeat (first|exact Old.refl _|apply Old.alloc))) (by simp -implicitDefEqProofs (disch:=first|exact dsc|fail)[A1z]) (by rw[St.alloc_at (by simp)];rfl) (by repeat (first|exact Old.refl _|apply Old.alloc)) hq
 ·try simp -implicitDefEqProofs (disch:=first|exact dsc|fail)[hd,-A5e]
  exact A44 (d:=cKp true false false false c) (hv.old (by repeat (first|exact Old.refl _|apply Old.alloc))) (.nil) (by simp -implicitDefEqProofs (disch:=first|exact dsc|fail)[A1z]) (by rw[St.alloc_at (by simp)];rfl) (by repeat (first|exact Old.refl _|apply Old.alloc)) hq
 ·try simp -implicitDefEqProofs (disch:=first|exact dsc|fail)[hd,-A5e]
  exact A44 (d:=cKp true false false true c) (hv.old (by repeat (first|exact Old.refl _|apply Old.alloc))) (hv.old (by repeat (first|exact Old.refl _|apply Old.alloc))) (by simp -implicitDefEqProofs (disch:=first|exact dsc|fail)[A1z]) (by rw[St.alloc_at (by simp)];rfl) (by repeat (first|exact Old.refl _|apply Old.alloc)) hq
 ·try simp -implicitDefEqProofs (disch:=first|exact dsc|fail)[hd,-A5e]
  exact A44 (d:=cKp true false true false c) (hv.old (by repeat (first|exact Old.refl _|apply Old.alloc))) (.nil) (by simp -implicitDefEqProofs (disch:=first|exact dsc|fail)[A1z]) (by rw[St.alloc_at (by simp)];rfl) (by repeat (first|exact Old.refl _|apply Old.alloc)) hq
 ·try simp -implicitDefEqProofs (disch:=first|exact dsc|fail)[hd,-A5e]
  exact A44 (d:=cKp true false true true c) (hv.old (by repeat (first|exact Old.refl _|apply Old.alloc))) (hv.old (by repeat (first|exact Old.refl _|apply Old.alloc))) (by simp -implicitDefEqProofs (disch:=first|exact dsc|fail)[A1z]) (by rw[St.alloc_at (by simp)];rfl) (by repeat (first|exact Old.refl _|apply Old.alloc)) hq
 ·try simp -implicitDefEqProofs (disch:=first|exact dsc|fail)[hd,-A5e]
  exact A44 (d:=cKp true true false false c) (hv.old (by repeat (first|exact Old.refl _|apply Old.alloc))) (.nil) (by simp -implicitDefEqProofs (disch:=first|exact dsc|fail)[A1z]) (by rw[St.alloc_at (by simp)];rfl) (by repeat (first|exact Old.refl _|apply Old.alloc)) hq
 ·try simp -implicitDefEqProofs (disch:=first|exact dsc|fail)[hd,-A5e]
  exact A44 (d:=cKp true true false true c) (hv.old (by repeat (first|exact Old.refl _|apply Old.alloc))) (hv.old (by repeat (first|exact Old.refl _|apply Old.alloc))) (by simp -implicitDefEqProofs (disch:=first|exact dsc|fail)[A1z]) (by rw[St.alloc_at (by simp)];rfl) (by repeat (first|exact Old.refl _|apply Old.alloc)) hq
 ·try simp -implicitDefEqProofs (disch:=first|exact dsc|fail)[hd,-A5e]
  exact A44 (d:=cKp true true true false c) (hv.old (by repeat (first|exact Old.refl _|apply Old.alloc))) (.nil) (by simp -implicitDefEqProofs (disch:=first|exact dsc|fail)[A1z]) (by rw[St.alloc_at (by simp)];rfl) (by repeat (first|exact Old.refl _|apply Old.alloc)) hq
 ·try simp -implicitDefEqProofs (disch:=first|exact dsc|fail)[hd,-A5e]
  exact A44 (d:=cKp true true true true c) (hv.old (by repeat (first|exact Old.refl _|apply Old.alloc))) (hv.old (by repeat (first|exact Old.refl _|apply Old.alloc))) (by simp -implicitDefEqProofs (disch:=first|exact dsc|fail)[A1z]) (by rw[St.alloc_at (by simp)];rfl) (by repeat (first|exact Old.refl _|apply Old.alloc)) hq
end Go.Zz
