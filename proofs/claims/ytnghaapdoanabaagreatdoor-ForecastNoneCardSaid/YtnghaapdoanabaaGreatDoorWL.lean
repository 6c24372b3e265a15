import Derived.Test.YtnghaapdoanabaaGreatDoorWK
set_option linter.all false
set_option maxRecDepth 20000
set_option linter.all false
namespace Go.Zz
open Go
variable {X : Y0}
section
variable {s : St} {o : Nat → Nat} {p : A0t → Prop} {h n m : Nat} {k : A0t} {Q : Post}
theorem C1r(hq:∀v qs S o',Fd s S o o' (fun _=>False)->Im ptrE S o' v qs->A1i S o' 0 qs [mk0 [k]]->Q v S):CC X 253 [.pointer none,A5b k,.int .u64 k.num] Q s:=by
 refine C3o rfl ?_
 try simp -implicitDefEqProofs (disch:=first|exact dsc|fail)[B0a A0g]
 rw[B9b (E:=A0s) (a:=k) rfl rfl rfl (by decide)]
 try simp -implicitDefEqProofs (disch:=first|exact dsc|fail)[]
 rw[bsl1 ⟨rfl,rfl⟩]
 try simp -implicitDefEqProofs (disch:=first|exact dsc|fail)[]
 rw[bsl1 ⟨rfl,rfl⟩]
 try simp -implicitDefEqProofs (disch:=first|exact dsc|fail)[]
 generalize hs1:s.alloc (.cells [.int .i64 k.br,.int .i64 k.vol,.int .i64 k.blk,.int .u64 k.num] false)=s1;have n1:s1.next=s.next+1:=by rw[<-hs1];simp
 have o1:Old s s1:=by rw[<-hs1];simp
 generalize hs2:s1.alloc (.cells [.int .i64 k.br,.int .i64 k.vol,.int .i64 k.blk,.int .u64 k.num] true)=s2;have n2:s2.next=s.next+1+1:=by rw[<-hs2];simp[n1]
 have o2:Old s1 s2:=by rw[<-hs2];simp
 have b2:s2.heap (s.next+1)=some (.cells (A0s.row [k]) true):=by rw[<-hs2,<-n1];exact St.alloc_self
 generalize hs3:s2.alloc (.cells [.int .u64 k.num] true)=s3;have n3:s3.next=s.next+1+1+1:=by rw[<-hs3];simp[n2]
 have o3:Old s2 s3:=by rw[<-hs3];simp
 have b3:s3.heap (s.next+1+1)=some (.cells ((intE .u64).row ([k].map (·.num))) true):=by rw[<-hs3,<-n2];exact St.alloc_self
 have oA:Old s s3:=(o1.trans o2).trans o3;have b2':=(o3.eq (b:=s.next+1) (by omega)).trans b2
 have i1:Im A0s s3 (tint o s.next 0) (.slice (some ⟨s.next+1,0,none⟩) 1 1) [k]:=⟨.made b2' (by omega) rfl rfl (by simp),fun _ a l c e=>by cases e;exact A0d (by show s.next<=s.next+1;omega)⟩
 have i2:Im (intE .u64) s3 (tint o s.next 0) (.slice (some ⟨s.next+1+1,0,none⟩) 1 1) ([k].map (·.num)):=⟨.made b3 (by omega) rfl rfl (by simp),fun _ a l c e=>by cases e;exact A0d (by show s.next<=s.next+1+1;omega)⟩
 have f1:Fd s s3 o (tint o s.next 0) (fun _=>False):=oA.tint
 generalize hx:AObj.cells [.slice (some ⟨s.next+1,0,none⟩) 1 1,.slice (some ⟨s.next+1+1,0,none⟩) 1 1,.slice none 0 0] false=x at *
 have f2:Fd s3 (s3.alloc x) (tint o s.next 0) (tint (tint o s.next 0) s3.next 0) (fun _=>False):=(Old.alloc (.refl _)).tint
 have f3:Fd (s3.alloc x) ((s3.alloc x).alloc (.cells [.pointer (some ⟨s3.next,0,none⟩)] true)) (tint (tint o s.next 0) s3.next 0) (tint (tint (tint o s.next 0) s3.next 0) (s3.next+1) 0) (fun _=>False):=(Old.alloc (.refl _)).tint
 rw[<-n3];refine A0a (hq _ [s3.next] _ _ ((f1.trans f2).trans f3) ⟨.made (b:=s3.next+1) (St.alloc_at (by simp)) (by simp) rfl rfl (by simp),fun _ a l c e=>by cases e;exact A0d (Nat.le_refl _)⟩ (.cons ?_ .nil))
 subst hx;exact A1w.fd f3 (fun h=>h) (.leaf (l:=[k]) ⟨by simp,by simp⟩ (A0d (Nat.le_refl _)) (i1.fd f2 (fun h=>h)) (i2.fd f2 (fun h=>h)))
theorem D8j(x y:Bool):binV P .neq 4 (.bool x) (.bool y)=some (.bool (!(x==y))):=by simp[binV,eqOp]
theorem D9r:∀{h:Nat} {a b:NT h},A1w s o h n a->A1w s o h m b->OkN p h a->OkN p h b->
  (∀v qs S o',Fd s S o o' (fun _=>False)->Im ptrE S o' v qs->A1i S o' h qs (B3y h a b)->Q v S)->CC X 203 [.pointer (some ⟨n,0,none⟩),.pointer (some ⟨m,0,none⟩)] Q s
 | 0,a,b,ha,hb,oa,ob,hq=>by
  simp only[B3y]at hq;have g1:=oa.1;have g2:=ob.1;refine D7q rfl ?_
  try simp -implicitDefEqProofs (disch:=first|exact dsc|fail)[A0j A0g]
  refine A1n ha oa ?_
  try simp -implicitDefEqProofs (disch:=first|exact dsc|fail)[]
  refine A1n hb ob ?_
  try simp -implicitDefEqProofs (disch:=first|exact dsc|fail)[D8j]
  refine A1n ha oa ?_
  try simp -implicitDefEqProofs (disch:=first|exact dsc|fail)[]
  refine A9q ha oa fun ka va ρ1 ρ2 S o2 w1 w2 r1 r2 r3=>?_
  try simp -implicitDefEqProofs (disch:=first|exact dsc|fail)[]
  refine A9q (hb.old o2) ob fun kb vb ρ3 ρ4 S2 o3 w3 w4 r4 r5 r6=>?_;have d1:=w1.in_.data;have d2:=w2.in_.data;have d3:=w3.in_.data;have d4:=w4.in_.data
  try simp -implicitDefEqProofs (disch:=first|exact dsc|fail)[d1,d2,d3,d4]
  rw[bsl2 d1 d3]
  try simp -implicitDefEqProofs (disch:=first|exact dsc|fail)[]
  have o4:Old S2 (S2.alloc (.cells [ka,kb] true)):=by simp
  refine D5g (vs:=[ka,kb]) (xss:=[A0m a,A0m b]) (.made St.alloc_self (by simp) rfl rfl (by simp)) rfl (fun j hj hj'=>?_) (by simp) (by simp[lens];omega) fun v4 S4 x4=>?_
  ·match j with
   | 0=>exact w1.in_.old (o3.trans o4)
   | 1=>exact w3.in_.old o4
  ·have o5:=x4.old_
   try simp -implicitDefEqProofs (disch:=first|exact dsc|fail)[]
   rw[bsl2 d2 d4]
   try simp -implicitDefEqProofs (disch:=first|exact dsc|fail)[]
   have o6:Old S4 (S4.alloc (.cells [va,vb] true)):=by simp
   refine E27 (vs:=[va,vb]) (xss:=[(A0m a).map (·.num),(A0m b).map (·.num)]) (.made St.alloc_self (by simp) rfl rfl (by simp)) rfl (fun j hj hj'=>?_) (by simp) (by simp[lens];omega) fun v5 S5 x5=>?_
   ·match j with
    | 0=>exact w2.in_.old (((o3.trans o4).trans o5).trans o6)
    | 1=>exact w4.in_.old ((o4.trans o5).trans o6)
   ·have o7:=x5.old_;have oA:=((((o2.trans o3).trans o4).trans o5).trans o6);obtain⟨ρk,y1,y2,y3⟩:=x4.from ((o2.trans o3).trans o4)
    obtain⟨ρv,z1,z2,z3⟩:=x5.from oA
    have k1:Im A0s S5 (tint o s.next 0) v4 (A0m a++A0m b):=by
     have:=(y1.same (o6.trans o7).le (fun b hb=>(o6.trans o7).eq (by subst hb;exact y1.lt))).imn (o:=tint o s.next 0) (fun b hb=>A0d (y3 b hb))
     simpa using this
    have k2:Im (intE .u64) S5 (tint o s.next 0) v5 ((A0m a++A0m b).map (·.num)):=by
     have:=z1.imn (o:=tint o s.next 0) (fun b hb=>A0d (z3 b hb))
     simpa using this
    try simp -implicitDefEqProofs (disch:=first|exact dsc|fail)[]
    refine B51 k1 k2 (by simp;omega) fun v6 qs S6 o6' f6 x6 y6=>?_
    try simp -implicitDefEqProofs (disch:=first|exact dsc|fail)[]
    exact A0a (hq v6 qs S6 o6' (z2.tint.trans f6) x6 y6)
 | h+1,a,b,ha,hb,oa,ob,hq=>by
  simp only[B3y]at hq;obtain⟨_,g1,_⟩:=id oa;obtain⟨_,g2,_⟩:=id ob;refine D7q rfl ?_
  try simp -implicitDefEqProofs (disch:=first|exact dsc|fail)[A0j A0g]
  refine A1n ha oa ?_
  try simp -implicitDefEqProofs (disch:=first|exact dsc|fail)[]
  refine A1n hb ob ?_
  try simp -implicitDefEqProofs (disch:=first|exact dsc|fail)[D8j]
  refine A1n ha oa ?_;obtain⟨kv,dv,ps,h1,h2,h3,h4,h5⟩:=ha.kids;obtain⟨kv',dv',ps',h1',h2',h3',h4',h5'⟩:=hb.kids;have d1:=h4.1.data;have d2:=h4'.1.data
  try simp -implicitDefEqProofs (disch:=first|exact dsc|fail)[h1.eq,h1'.eq]
  rw[bsl2 d1 d2]
  try simp -implicitDefEqProofs (disch:=first|exact dsc|fail)[]
  have e1:=h5.1;have e2:=h5'.1;have o1:Old s (s.alloc (.cells [dv,dv'] true)):=by simp
  refine B8l (vs:=[dv,dv']) (xss:=[ps,ps']) (.made St.alloc_self (by simp) rfl rfl (by simp)) rfl (fun j hj hj'=>?_) (by simp) (by simp[lens];omega) fun v4 S4 x4=>?_
  ·match j with
   | 0=>exact h4.1.old o1
   | 1=>exact h4'.1.old o1
  ·obtain⟨ρ,y1,y2,y3⟩:=x4.from o1
   have f1:Fd s S4 o (tint o s.next 0) (fun _=>False):=y2.tint
   have k1:Im ptrE S4 (tint o s.next 0) v4 (ps++ps'):=by
    have:=y1.imn (o:=tint o s.next 0) (fun b hb=>A0d (y3 b hb))
    simpa using this
   try simp -implicitDefEqProofs (disch:=first|exact dsc|fail)[]
   refine A98 k1 ((h5.fd f1 (fun h=>h)).append (h5'.fd f1 (fun h=>h))) (by simp;omega) fun v5 qs S5 o5 f5 x5 y5=>?_
   try simp -implicitDefEqProofs (disch:=first|exact dsc|fail)[]
   exact A0a (hq v5 qs S5 o5 (f1.trans f5) x5 y5)
theorem E43{l:List (NT h)}{i j:Nat}{c:NT h}(hm:lenN h c<2/\1<l.length)(hje:B4y l.length i=j)(h1:j<(l.set i c).length)(h2:j+1<(l.set i c).length):C5a h l i c=(l.set i c).take j++(B3y h (l.set i c)[j] (l.set i c)[j+1]++(l.set i c).drop (j+2)):=by
 subst hje;unfold C5a;rw[if_pos hm,List.getElem?_eq_getElem h1,List.getElem?_eq_getElem h2]
theorem D06{v:Value}{qs:List Nat}{ts:List (NT h)}{j:Nat}{s0:St}(hv:Im ptrE s o v qs)(hN:A1i s o h qs ts)(ho:∀u∈ts,OkN p h u)(hl:ts.length<=4)(hj:j+1<ts.length)
  (hq:∀n S o',Fd s S o o' (fun _=>False)->A1w S o' (h+1) n (mkN (ts.take j++(B3y h ts[j] ts[j+1]++ts.drop (j+2))))->Q (.tuple #[.pointer (some ⟨n,0,none⟩),.bool true]) S):A8z (CC X) Q s0 (.int .i64 j) v s:=by
 have hql:=hN.1;have hjp:j<qs.length:=by omega
 have hjp':j+1<qs.length:=by omega
 have hji:(j:Int)+1<qs.length:=by omega
 have ej1:((j:Int)+1).toNat=j+1:=by omega
 have ej2:((j:Int)+2).toNat=j+2:=by omega
 have e1:=fun S (hS:Old s S)=>(hv.old hS).part (P:=P) (lo:=none) (hi:=some (.int .i64 j)) A0k A56 ⟨by simp,by simp,by simp,by simp;omega⟩
 have e2:=fun S (hS:Old s S)=>(hv.old hS).part (P:=P) (lo:=some (.int .i64 ((j:Int)+2))) (hi:=none) A0k A56 ⟨by simp;omega,by simp,by simp only[A9s,A9v];omega,by simp⟩
 simp only[A9s,A9v,Int.toNat_natCast]at e1 e2;rw[ej2]at e2;have i1:=hv.part_in (lo:=0) (hi:=j) (by omega) (by omega)
 have i2:=hv.part_in (lo:=j+2) (hi:=qs.length) (by omega) (Nat.le_refl _)
 rw[List.drop_zero,Nat.sub_zero]at i1;rw[List.take_of_length_le (by simp)]at i2
 have e1s:=e1 s (.refl _);have e2s:=e2 s (.refl _);have x2:=hv.1.one (n:=1) hjp'
 try simp -implicitDefEqProofs (disch:=first|exact dsc|fail)[hv.1.idx,hv.1.one,hjp,e1s,e2s,hji,ej1,x2]
 refine D9r (hN.2 j hjp (by omega)) (hN.2 (j+1) hjp' hj) (ho _ (List.getElem_mem _)) (ho _ (List.getElem_mem _)) fun v3 rs S o' f1 y1 y2=>?_
 have oS:=f1.chg.old (fun _ _ h=>h);have j1:=i1.old oS;have j2:=i2.old oS
 try simp -implicitDefEqProofs (disch:=first|exact dsc|fail)[e1 S oS,e2 S oS]
 rw[bsl3 j1.1.data y1.1.data j2.1.data];have hrl:=(C6p (ho _ (List.getElem_mem (show j<ts.length by omega))) (ho _ (List.getElem_mem hj))).2
 have lrs:=y2.1
 try simp -implicitDefEqProofs (disch:=first|exact dsc|fail)[]
 refine B8l (vs:=[A5c 1 v 0 j,v3,A5c 1 v (j+2) qs.length]) (xss:=[qs.take j,rs,qs.drop (j+2)]) (.made St.alloc_self (by simp) rfl rfl (by simp)) rfl (fun i hi hi'=>?_) (by simp) (by simp[lens];omega) fun v4 S4 w4=>?_
 ·match i with
  | 0=>exact(j1.old (by simp)).1
  | 1=>exact(y1.old (by simp)).1
  | 2=>exact(j2.old (by simp)).1
 ·have f2:Fd S S4 o' (tint o' S.next 0) (fun _=>False):=(Old.alloc (.refl _) |>.trans w4.old_).tint
  have hN4:A1i S4 (tint o' S.next 0) h (qs.take j++(rs++qs.drop (j+2))) (ts.take j++(B3y h ts[j] ts[j+1]++ts.drop (j+2))):=
   A1i.append (hN.take.fd (f1.trans f2) (fun h=>h)) ((y2.fd f2 (fun h=>h)).append (hN.drop.fd (f1.trans f2) (fun h=>h)))
  have hI:Im ptrE S4 (tint o' S.next 0) v4 (qs.take j++(rs++qs.drop (j+2))):=by
   obtain⟨ρ,y1,y2,y3⟩:=w4;have:=y1.imn (o:=tint o' S.next 0) (fun b hb=>A0d (by have:=y3 b hb;simp at this;omega))
   simpa using this
  try simp -implicitDefEqProofs (disch:=first|exact dsc|fail)[]
  refine A8x hI hN4 (by simp;omega) fun n5 S5 o5 f5 x5=>?_
  try simp -implicitDefEqProofs (disch:=first|exact dsc|fail)[]
  exact A0a (hq n5 S5 o5 ((f1.trans f2).trans f5) x5)
theorem C1s:∀{h:Nat} {n:Nat} {t:NT h} {s:St} {o:Nat->Nat} {Q:Post},A1w s o h n t->OkN p h t->
  (delN h t k=none->Q (.tuple #[.pointer (some ⟨n,0,none⟩),.bool false]) s)->
  (∀u n' S o',delN h t k=some u->Fd s S o o' (fun _=>False)->A1w S o' h n' u->Q (.tuple #[.pointer (some ⟨n',0,none⟩),.bool true]) S)->CC X 180 [.pointer (some ⟨n,0,none⟩),A5b k] Q s
 | 0,n,t,s,o,Q,hn,ho,hq0,hq=>by
  have hlt:=hn.lt;have h4l:=ho.1;simp only[delN]at hq0 hq;refine C4m rfl ?_
  try simp -implicitDefEqProofs (disch:=first|exact dsc|fail)[A0j A0g]
  have o1:Old s (s.alloc (.cells (A0s.cells k) false)):=by simp
  have hb0:(s.alloc (.cells (A0s.cells k) false)).heap s.next=some (.cells (A0s.cells k) false):=St.alloc_self
  simp only[A1p]at o1 hb0;generalize hs1:s.alloc (.cells [.int .i64 k.br,.int .i64 k.vol,.int .i64 k.blk,.int .u64 k.num] false)=s1 at *;have n1:s1.next=s.next+1:=by rw[<-hs1];simp
  refine A1n (hn.old o1) ho ?_
  try simp -implicitDefEqProofs (disch:=first|exact dsc|fail)[hb0]
  refine A7t (hn.old o1) ho ?_;have hfl:=B1q (l:=A0y 0 t) (k:=k);have hks:A0y 0 t=A0m t:=rfl;rw[hks]at hfl;by_cases hhad:(A07 (A0m t) k).2=true
  ·rw[if_pos hhad]at hq;obtain⟨hi,he⟩:=B10 hhad
   try simp -implicitDefEqProofs (disch:=first|exact dsc|fail)[B6o,hks,hhad]
   refine A9q (hn.old o1) ho fun kv vv ρ ρ' S o2 w1 w2 r1 r2 r3=>?_
   try simp -implicitDefEqProofs (disch:=first|exact dsc|fail)[]
   refine D86 (i:=(A07 (A0m t) k).1) (j:=(A07 (A0m t) k).1+1) w1 (by omega) (by omega) (by omega) fun kv' S2 g1 g2=>?_
   try simp -implicitDefEqProofs (disch:=first|exact dsc|fail)[]
   have w2':=w2.same (s':=S2) g2.le (fun b hb=>g2.eq (by subst hb;exact w2.lt) (fun e=>r3 b e hb))
   refine E1v (i:=(A07 (A0m t) k).1) (j:=(A07 (A0m t) k).1+1) w2' (by simp;omega) (by omega) (by simp;omega) fun vv' S3 q1 q2=>?_
   have d1:=g1.in_.data;have d2:=q1.in_.data
   try simp -implicitDefEqProofs (disch:=first|exact dsc|fail)[d1,d2]
   have hmap:((A0m t).map (·.num)).take (A07 (A0m t) k).1++((A0m t).map (·.num)).drop ((A07 (A0m t) k).1+1)=((A0m t).take (A07 (A0m t) k).1++(A0m t).drop ((A07 (A0m t) k).1+1)).map (·.num):=by simp[List.map_take,List.map_drop]
   rw[hmap]at q1;have hle1:=o1.le;have hle2:=o2.le;have hle3:=g2.le;have hle4:=q2.le;have oS:Old s S3:=⟨by omega,fun {b} hb=>by
    rw[q2.eq (by omega) (fun e=>by have:=r2 b e;omega),g2.eq (by omega) (fun e=>by have:=r1 b e;omega),o2.eq (by omega),o1.eq hb]⟩
   have k1:Im A0s S3 (tint o s.next 0) kv' ((A0m t).take (A07 (A0m t) k).1++(A0m t).drop ((A07 (A0m t) k).1+1)):=(g1.same q2.le (fun b hb=>q2.eq (by subst hb;exact g1.lt) (fun e=>r3 b hb e))).imn (fun b hb=>A0d (by have:=r1 b hb;omega))
   have k2:Im (intE .u64) S3 (tint o s.next 0) vv' (((A0m t).take (A07 (A0m t) k).1++(A0m t).drop ((A07 (A0m t) k).1+1)).map (·.num)):=q1.imn (fun b hb=>A0d (by have:=r2 b hb;omega))
   have f1:Fd s S3 o (tint o s.next 0) (fun _=>False):=oS.tint
   have f2:Fd S3 (S3.alloc (.cells [kv',vv',.slice none 0 0] false)) (tint o s.next 0) (tint (tint o s.next 0) S3.next 0) (fun _=>False):=(Old.alloc (.refl _)).tint
   exact A0a (hq _ S3.next _ _ rfl (f1.trans f2) (.leaf ⟨by simp,by simp⟩ (A0d (Nat.le_refl _)) (k1.fd f2 (fun h=>h)) (k2.fd f2 (fun h=>h))))
  ·rw[if_neg hhad]at hq0
   try simp -implicitDefEqProofs (disch:=first|exact dsc|fail)[B6o,hks,hhad]
   exact A0b o1 (A0p (by simp[hlt])) (hq0 rfl)
 | h+1,n,t,s,o,Q,hn,ho,hq0,hq=>by
  have hlt:=hn.lt;obtain⟨g1,g2,g3⟩:=ho;obtain⟨kv,dv,ps,h1,h2,h3,h4,h5⟩:=hn.kids;have hps:=h5.1;have hi:=C53 (l:=A0y (h+1) t) (k:=k) (by rw[A4a];exact g1)
  rw[A4a]at hi;have hi:(fIn (A0y (h+1) t) k).1<(kids t).length:=hi;simp only[delN]at hq0 hq;rw[List.getElem?_eq_getElem hi]at hq0 hq;simp only at hq0 hq;have hokk:=g3 _ (List.getElem_mem hi);refine C4m rfl ?_
  try simp -implicitDefEqProofs (disch:=first|exact dsc|fail)[A0j A0g]
  have o1:Old s (s.alloc (.cells (A0s.cells k) false)):=by simp
  have hb0:(s.alloc (.cells (A0s.cells k) false)).heap s.next=some (.cells (A0s.cells k) false):=St.alloc_self
  simp only[A1p]at o1 hb0;generalize hs1:s.alloc (.cells [.int .i64 k.br,.int .i64 k.vol,.int .i64 k.blk,.int .u64 k.num] false)=s1 at *;have n1:s1.next=s.next+1:=by rw[<-hs1];simp
  have hn1:=hn.old o1;refine A1n hn1 ⟨g1,g2,g3⟩ ?_
  try simp -implicitDefEqProofs (disch:=first|exact dsc|fail)[hb0]
  refine C62 hn1 ⟨g1,g2,g3⟩ ?_;generalize (fIn (A0y (h+1) t) k).1=i at *;have hip:i<ps.length:=by omega
  have h4':=h4.old o1;have h1':=h1.old o1
  try simp -implicitDefEqProofs (disch:=first|exact dsc|fail)[h1'.eq,hb0,h4'.1.idx,h4'.1.one,hip]
  refine C1s ((h5.2 i hip hi).old o1) hokk (fun hnone=>?_) fun c n' S o' hsome f1 x1=>?_
  ·try simp -implicitDefEqProofs (disch:=first|exact dsc|fail)[]
   exact A0b o1 (A0p (by simp[hlt])) (hq0 (by rw[hnone];rfl))
  ·have hokc:=B8e hokk hsome;have oS:=f1.chg.old (fun _ _ h=>h);have oS':=o1.trans oS;have h1S:=h1.old oS';have hnS:=h1S.lt;have h4S:=h4.old oS'
   try simp -implicitDefEqProofs (disch:=first|exact dsc|fail)[h1S.eq]
   refine F3m h4S.1 (by omega) fun v2 S2 w2=>?_
   obtain⟨ρ,y1,y2,y3⟩:=w2;have hI:=y1.in_
   try simp -implicitDefEqProofs (disch:=first|exact dsc|fail)[hI.idx,hip]
   refine y1.store1 (a:=n') hip rfl rfl fun S3 w3 c3 n3=>?_;have hle3:=c3.le;have oS3:Old S S3:=⟨by have:=y2.le;omega,fun {b} hb=>by rw[c3.eq (by have:=y2.le;omega) (fun e=>by have:=y3 b e;omega),y2.eq hb]⟩
   have x3:=x1.old oS3
   try simp -implicitDefEqProofs (disch:=first|exact dsc|fail)[]
   refine D3g x3 hokc ?_;have hf0:Fd s s1 o o (fun _=>False):=o1.fd;have f3:Fd S S3 o' (tint o' S.next 0) (fun _=>False):=oS3.tint
   have fA:=(hf0.trans f1).trans f3;have hI3:Im ptrE S3 (tint o' S.next 0) v2 (ps.set i n'):=w3.imn (fun b hb=>A0d (y3 b hb))
   have hN3:A1i S3 (tint o' S.next 0) h (ps.set i n') ((kids t).set i c):=(h5.fd fA (fun h=>h)).set (x1.fd f3 (fun h=>h))
   have hll:=fun S=>w3.in_.len (P:=P) (s':=S) A0k;have hsl:(ps.set i n').length=ps.length:=by simp
   rw[hsl]at hll;simp only[hsome,Option.map_some]at hq;by_cases hm:lenN h c<2/\1<(kids t).length
   ·obtain⟨m1,m2⟩:=hm;have m1':(lenN h c:Int)<2:=by omega
    have m2':(1:Int)<ps.length:=by omega
    have hj:=C5x hi m2;have hw1:IntKind.i64.wrap ((ps.length:Int)-1)=(ps.length:Int)-1:=wrap_i64 (by omega) (by omega)
    have hok3:∀u∈(kids t).set i c,OkN p h u:=fun u hu=>(List.mem_or_eq_of_mem_set hu).elim (fun e=>g3 u e) (fun e=>by rw[e];exact hokc)
    have key:∀j:Nat,B4y (kids t).length i=j->A8z (CC X) Q s (.int .i64 j) v2 S3:=by
     intro j hje;rw[hje]at hj;refine D06 hI3 hN3 hok3 (by simp;omega) (by simp;omega) fun n5 S5 o5 f5 x5=>?_
     refine hq _ n5 S5 o5 rfl (fA.trans f5) ?_;rw[E43 ⟨m1,m2⟩ hje (by simp;omega) (by simp;omega)]
     exact x5
    by_cases hlast:(i:Int)=(ps.length:Int)-1
    ·have hj1:=key (i-1) (by unfold B4y;rw[if_pos (by omega)])
     have ei:((i-1:Nat):Int)=(ps.length:Int)-1-1:=by omega
     rw[ei]at hj1;have hw2:IntKind.i64.wrap ((ps.length:Int)-1-1)=(ps.length:Int)-1-1:=wrap_i64 (by omega) (by omega)
     try simp -implicitDefEqProofs (disch:=first|exact dsc|fail)[-B58,-B0o,-A8z,-B55,-B43,-B4n,m1',m2',hll,hw1,hw2,hlast]
     exact hj1
    ·have hj1:=key i (by unfold B4y;rw[if_neg (by omega)])
     try simp -implicitDefEqProofs (disch:=first|exact dsc|fail)[-B58,-B0o,-A8z,-B55,-B43,-B4n,m1',m2',hll,hw1,hlast]
     exact hj1
   ·rw[show C5a h (kids t) i c=(kids t).set i c by unfold C5a;rw[if_neg hm]]at hq
    have hm':(lenN h c:Int)<2->¬(1:Int)<ps.length:=fun e1 e2=>hm ⟨by omega,by omega⟩
    have fin:B0o (CC X) Q s v2 S3:=by
     try simp -implicitDefEqProofs (disch:=first|exact dsc|fail)[]
     refine A8x hI3 hN3 (by simp;omega) fun n5 S5 o5 f5 x5=>?_
     try simp -implicitDefEqProofs (disch:=first|exact dsc|fail)[]
     exact A0a (hq _ n5 S5 o5 rfl (fA.trans f5) x5)
    by_cases m1:(lenN h c:Int)<2
    ·have m2:=hm' m1
     try simp -implicitDefEqProofs (disch:=first|exact dsc|fail)[-B58,-B0o,-A8z,-B55,-B43,-B4n,m1,m2,hll]
     exact fin
    ·try simp -implicitDefEqProofs (disch:=first|exact dsc|fail)[-B58,-B0o,-A8z,-B55,-B43,-B4n,m1,hll]
     exact fin
theorem E28{t:NT (h+1)}{u:NT h}(hk:kids t=[u]):topN (h+1) t=topN h u:=by simp only[topN,hk]
theorem D37{t:NT (h+1)}(hk:(kids t).length≠1):topN (h+1) t=⟨h+1,t⟩:=by
 match hkk:kids t with
 | [u]=>rw[hkk]at hk;exact absurd rfl hk
 | []=>simp only[topN,hkk]
 | a::b::r=>simp only[topN,hkk]
def C6q(a:AN):Option AN:=if a.1=0/\lenN a.1 a.2=0 then none else some a
theorem D3s{t:NT h}(hn:A1w s o h n t)(ho:OkN p h t)(hq0:delN h t k=none->Q (.tuple #[.pointer (some ⟨n,0,none⟩),.bool false]) s)
  (hq1:∀u S o',delN h t k=some u->Fd s S o o' (fun _=>False)->C6q (topN h u)=none->Q (.tuple #[.pointer none,.bool true]) S)
  (hq2:∀u a n' S o',delN h t k=some u->Fd s S o o' (fun _=>False)->C6q (topN h u)=some a->A1w S o' a.1 n' a.2->Q (.tuple #[.pointer (some ⟨n',0,none⟩),.bool true]) S):CC X 152 [.pointer (some ⟨n,0,none⟩),A5b k] Q s:=by
 have hlt:=hn.lt;refine D8d rfl ?_
 try simp -implicitDefEqProofs (disch:=first|exact dsc|fail)[]
 have o1:Old s (s.alloc (.cells [.int .i64 k.br,.int .i64 k.vol,.int .i64 k.blk,.int .u64 k.num] false)):=by simp
 generalize hs1:s.alloc (.cells [.int .i64 k.br,.int .i64 k.vol,.int .i64 k.blk,.int .u64 k.num] false)=s1 at *;refine C1s (hn.old o1) ho (fun hnone=>?_) fun c n' S o' hsome f1 x1=>?_
 ·try simp -implicitDefEqProofs (disch:=first|exact dsc|fail)[]
  exact A0b o1 (A0p (by simp[hlt])) (hq0 hnone)
 ·try simp -implicitDefEqProofs (disch:=first|exact dsc|fail)[]
  refine C8g fun I hI=>?_;have hokc:=B8e ho hsome;have key:∀(h' n':Nat) (w:NT h'),OkN p h' w->A1w S o' h' n' w->topN h' w=topN h c->I (.pointer (some ⟨n',0,none⟩)) S:=by
   intro h';induction h' with
   | zero=>
    intro n' w how hw hr;refine hI _ _ ?_;obtain⟨kv,vv,h1,h2,h3,h4⟩:=id hw;have hl3:=fun S=>h3.1.len (P:=P) (s':=S) A0i
    try simp -implicitDefEqProofs (disch:=first|exact dsc|fail)[h1.eq]
    refine A1n hw how ?_;have hr':topN 0 w=⟨0,w⟩:=rfl;rw[hr']at hr;by_cases he:(A0m w).length=0
    ·have hei:((A0m w).length:Int)=0:=by omega
     try simp -implicitDefEqProofs (disch:=first|exact dsc|fail)[h1.eq,hl3,he,hei]
     exact A0a (hq1 c S o' hsome (o1.fd.trans f1) (by rw[<-hr];exact if_pos ⟨rfl,he⟩))
    ·have hei:¬((A0m w).length:Int)=0:=by omega
     have he2:¬A0m w=[]:=fun e=>he (by rw[e];rfl)
     try simp -implicitDefEqProofs (disch:=first|exact dsc|fail)[h1.eq,hl3,he2,hei]
     exact A0a (hq2 c ⟨0,w⟩ n' S o' hsome (o1.fd.trans f1) (by rw[<-hr];exact if_neg (fun e=>he e.2)) hw)
   | succ h' ih=>
    intro n' w how hw hr;refine hI _ _ ?_;obtain⟨g1,g2,g3⟩:=id how;obtain⟨kv,dv,ps,h1,h2,h3,h4,h5⟩:=hw.kids;have hl4:=fun S=>h4.1.len (P:=P) (s':=S) A0k;have hps:=h5.1;by_cases he:ps.length=1
    ·have hei:(ps.length:Int)=1:=by omega
     have h0:0<ps.length:=by omega
     have hi:=fun(q:IntKind)=>h4.1.idx (q:=q) (ag:=false) (j:=0) (by omega) (by omega)
     have hg:=h4.1.one (i:=0) (n:=1) h0;simp only[Int.toNat_zero,Nat.zero_mul,B77]at hi hg
     try simp -implicitDefEqProofs (disch:=first|exact dsc|fail)[h1.eq,hl4,hei,hi,hg,B2w A0g]
     obtain⟨u,hu⟩:∃u,kids w=[u]:=List.length_eq_one_iff.1 (by omega)
     have x:=h5.2 0 h0 (by omega)
     have e0:(kids w)[0]'(by omega)=u:=by simp[hu]
     rw[e0]at x;have:=ih ps[0] u (g3 u (by rw[hu];simp)) x (by rw[<-E28 hu];exact hr)
     simpa using this
    ·have hei:¬(ps.length:Int)=1:=by omega
     try simp -implicitDefEqProofs (disch:=first|exact dsc|fail)[h1.eq,hl4,hei]
     refine A1n hw how ?_;rw[D37 (by omega)]at hr
     try simp -implicitDefEqProofs (disch:=first|exact dsc|fail)[]
     exact A0a (hq2 c ⟨h'+1,w⟩ n' S o' hsome (o1.fd.trans f1) (by rw[<-hr];exact if_neg (fun e=>by cases e.1)) hw)
  exact key h n' c hokc x1 rfl
theorem E40(hq:Q (.tuple #[.pointer none,.bool false]) s):CC X 152 [.pointer none,A5b k] Q s:=by
 refine D8d rfl ?_
 try simp -implicitDefEqProofs (disch:=first|exact dsc|fail)[]
 refine C4m rfl ?_
 try simp -implicitDefEqProofs (disch:=first|exact dsc|fail)[B0a A0g]
 exact A0b (by repeat (first|exact Old.refl _|apply Old.alloc)) (A0p (by simp)) (A0b (by simp) (A0p (by simp)) hq)
end
end Go.Zz
