import Derived.Test.YtnghaapdoanabaaGreatDoorWK
set_option linter.all false
set_option maxRecDepth 20000
set_option linter.all false
namespace Go.Zz
open Go
variable {X : Y0}
section
variable {s : St} {o : Nat → Nat} {p : SpotM → Prop} {h n m : Nat} {k : SpotM} {Q : Post}
theorem put_nil_spec(hq:∀v qs S o',Fd s S o o' (fun _=>False)->Im ptrE S o' v qs->NodesR S o' 0 qs [mk0 [k]]->Q v S):CC X 253 [.pointer none,spotV k,.int .u64 k.num] Q s:=by
 refine f253xin rfl ?_
 try simp -implicitDefEqProofs (disch:=first|exact dsc|fail)[nil_nil y_P_underlying_199]
 rw[bsl_one (E:=spotE) (a:=k) rfl rfl rfl (by decide)]
 try simp -implicitDefEqProofs (disch:=first|exact dsc|fail)[]
 rw[bsl1 ⟨rfl,rfl⟩]
 try simp -implicitDefEqProofs (disch:=first|exact dsc|fail)[]
 rw[bsl1 ⟨rfl,rfl⟩]
 try simp -implicitDefEqProofs (disch:=first|exact dsc|fail)[]
 generalize hs1:s.alloc (.cells [.int .i64 k.br,.int .i64 k.vol,.int .i64 k.blk,.int .u64 k.num] false)=s1;have n1:s1.next=s.next+1:=by rw[<-hs1];simp
 have o1:Old s s1:=by rw[<-hs1];simp
 generalize hs2:s1.alloc (.cells [.int .i64 k.br,.int .i64 k.vol,.int .i64 k.blk,.int .u64 k.num] true)=s2;have n2:s2.next=s.next+1+1:=by rw[<-hs2];simp[n1]
 have o2:Old s1 s2:=by rw[<-hs2];simp
 have b2:s2.heap (s.next+1)=some (.cells (spotE.row [k]) true):=by rw[<-hs2,<-n1];exact St.alloc_self
 generalize hs3:s2.alloc (.cells [.int .u64 k.num] true)=s3;have n3:s3.next=s.next+1+1+1:=by rw[<-hs3];simp[n2]
 have o3:Old s2 s3:=by rw[<-hs3];simp
 have b3:s3.heap (s.next+1+1)=some (.cells ((intE .u64).row ([k].map (·.num))) true):=by rw[<-hs3,<-n2];exact St.alloc_self
 have oA:Old s s3:=(o1.trans o2).trans o3;have b2':=(o3.eq (b:=s.next+1) (by omega)).trans b2
 have i1:Im spotE s3 (tint o s.next 0) (.slice (some ⟨s.next+1,0,none⟩) 1 1) [k]:=⟨.made b2' (by omega) rfl rfl (by simp),fun _ a l c e=>by cases e;exact tint_new (by show s.next<=s.next+1;omega)⟩
 have i2:Im (intE .u64) s3 (tint o s.next 0) (.slice (some ⟨s.next+1+1,0,none⟩) 1 1) ([k].map (·.num)):=⟨.made b3 (by omega) rfl rfl (by simp),fun _ a l c e=>by cases e;exact tint_new (by show s.next<=s.next+1+1;omega)⟩
 have f1:Fd s s3 o (tint o s.next 0) (fun _=>False):=oA.tint
 generalize hx:AObj.cells [.slice (some ⟨s.next+1,0,none⟩) 1 1,.slice (some ⟨s.next+1+1,0,none⟩) 1 1,.slice none 0 0] false=x at *
 have f2:Fd s3 (s3.alloc x) (tint o s.next 0) (tint (tint o s.next 0) s3.next 0) (fun _=>False):=(Old.alloc (.refl _)).tint
 have f3:Fd (s3.alloc x) ((s3.alloc x).alloc (.cells [.pointer (some ⟨s3.next,0,none⟩)] true)) (tint (tint o s.next 0) s3.next 0) (tint (tint (tint o s.next 0) s3.next 0) (s3.next+1) 0) (fun _=>False):=(Old.alloc (.refl _)).tint
 rw[<-n3];refine kEnd_keep (hq _ [s3.next] _ _ ((f1.trans f2).trans f3) ⟨.made (b:=s3.next+1) (St.alloc_at (by simp)) (by simp) rfl rfl (by simp),fun _ a l c e=>by cases e;exact tint_new (Nat.le_refl _)⟩ (.cons ?_ .nil))
 subst hx;exact NodeR.fd f3 (fun h=>h) (.leaf (l:=[k]) ⟨by simp,by simp⟩ (tint_new (Nat.le_refl _)) (i1.fd f2 (fun h=>h)) (i2.fd f2 (fun h=>h)))
theorem bool_ne(x y:Bool):binV P .neq 4 (.bool x) (.bool y)=some (.bool (!(x==y))):=by simp[binV,eqOp]
theorem join_spec:∀{h:Nat} {a b:NT h},NodeR s o h n a->NodeR s o h m b->OkN p h a->OkN p h b->
  (∀v qs S o',Fd s S o o' (fun _=>False)->Im ptrE S o' v qs->NodesR S o' h qs (joinN h a b)->Q v S)->CC X 203 [.pointer (some ⟨n,0,none⟩),.pointer (some ⟨m,0,none⟩)] Q s
 | 0,a,b,ha,hb,oa,ob,hq=>by
  simp only[joinN]at hq;have g1:=oa.1;have g2:=ob.1;refine f203xin rfl ?_
  try simp -implicitDefEqProofs (disch:=first|exact dsc|fail)[nil_ptr y_P_underlying_199]
  refine Leaf_spec ha oa ?_
  try simp -implicitDefEqProofs (disch:=first|exact dsc|fail)[]
  refine Leaf_spec hb ob ?_
  try simp -implicitDefEqProofs (disch:=first|exact dsc|fail)[bool_ne]
  refine Leaf_spec ha oa ?_
  try simp -implicitDefEqProofs (disch:=first|exact dsc|fail)[]
  refine leafs_spec ha oa fun ka va ρ1 ρ2 S o2 w1 w2 r1 r2 r3=>?_
  try simp -implicitDefEqProofs (disch:=first|exact dsc|fail)[]
  refine leafs_spec (hb.old o2) ob fun kb vb ρ3 ρ4 S2 o3 w3 w4 r4 r5 r6=>?_;have d1:=w1.in_.data;have d2:=w2.in_.data;have d3:=w3.in_.data;have d4:=w4.in_.data
  try simp -implicitDefEqProofs (disch:=first|exact dsc|fail)[d1,d2,d3,d4]
  rw[bsl2 d1 d3]
  try simp -implicitDefEqProofs (disch:=first|exact dsc|fail)[]
  have o4:Old S2 (S2.alloc (.cells [ka,kb] true)):=by simp
  refine Concat_sp (vs:=[ka,kb]) (xss:=[spots a,spots b]) (.made St.alloc_self (by simp) rfl rfl (by simp)) rfl (fun j hj hj'=>?_) (by simp) (by simp[lens];omega) fun v4 S4 x4=>?_
  ·match j with
   | 0=>exact w1.in_.old (o3.trans o4)
   | 1=>exact w3.in_.old o4
  ·have o5:=x4.old_
   try simp -implicitDefEqProofs (disch:=first|exact dsc|fail)[]
   rw[bsl2 d2 d4]
   try simp -implicitDefEqProofs (disch:=first|exact dsc|fail)[]
   have o6:Old S4 (S4.alloc (.cells [va,vb] true)):=by simp
   refine Concat_u (vs:=[va,vb]) (xss:=[(spots a).map (·.num),(spots b).map (·.num)]) (.made St.alloc_self (by simp) rfl rfl (by simp)) rfl (fun j hj hj'=>?_) (by simp) (by simp[lens];omega) fun v5 S5 x5=>?_
   ·match j with
    | 0=>exact w2.in_.old (((o3.trans o4).trans o5).trans o6)
    | 1=>exact w4.in_.old ((o4.trans o5).trans o6)
   ·have o7:=x5.old_;have oA:=((((o2.trans o3).trans o4).trans o5).trans o6);obtain⟨ρk,y1,y2,y3⟩:=x4.from ((o2.trans o3).trans o4)
    obtain⟨ρv,z1,z2,z3⟩:=x5.from oA
    have k1:Im spotE S5 (tint o s.next 0) v4 (spots a++spots b):=by
     have:=(y1.same (o6.trans o7).le (fun b hb=>(o6.trans o7).eq (by subst hb;exact y1.lt))).imn (o:=tint o s.next 0) (fun b hb=>tint_new (y3 b hb))
     simpa using this
    have k2:Im (intE .u64) S5 (tint o s.next 0) v5 ((spots a++spots b).map (·.num)):=by
     have:=z1.imn (o:=tint o s.next 0) (fun b hb=>tint_new (z3 b hb))
     simpa using this
    try simp -implicitDefEqProofs (disch:=first|exact dsc|fail)[]
    refine halves_spec k1 k2 (by simp;omega) fun v6 qs S6 o6' f6 x6 y6=>?_
    try simp -implicitDefEqProofs (disch:=first|exact dsc|fail)[]
    exact kEnd_keep (hq v6 qs S6 o6' (z2.tint.trans f6) x6 y6)
 | h+1,a,b,ha,hb,oa,ob,hq=>by
  simp only[joinN]at hq;obtain⟨_,g1,_⟩:=id oa;obtain⟨_,g2,_⟩:=id ob;refine f203xin rfl ?_
  try simp -implicitDefEqProofs (disch:=first|exact dsc|fail)[nil_ptr y_P_underlying_199]
  refine Leaf_spec ha oa ?_
  try simp -implicitDefEqProofs (disch:=first|exact dsc|fail)[]
  refine Leaf_spec hb ob ?_
  try simp -implicitDefEqProofs (disch:=first|exact dsc|fail)[bool_ne]
  refine Leaf_spec ha oa ?_;obtain⟨kv,dv,ps,h1,h2,h3,h4,h5⟩:=ha.kids;obtain⟨kv',dv',ps',h1',h2',h3',h4',h5'⟩:=hb.kids;have d1:=h4.1.data;have d2:=h4'.1.data
  try simp -implicitDefEqProofs (disch:=first|exact dsc|fail)[h1.eq,h1'.eq]
  rw[bsl2 d1 d2]
  try simp -implicitDefEqProofs (disch:=first|exact dsc|fail)[]
  have e1:=h5.1;have e2:=h5'.1;have o1:Old s (s.alloc (.cells [dv,dv'] true)):=by simp
  refine Concat_p (vs:=[dv,dv']) (xss:=[ps,ps']) (.made St.alloc_self (by simp) rfl rfl (by simp)) rfl (fun j hj hj'=>?_) (by simp) (by simp[lens];omega) fun v4 S4 x4=>?_
  ·match j with
   | 0=>exact h4.1.old o1
   | 1=>exact h4'.1.old o1
  ·obtain⟨ρ,y1,y2,y3⟩:=x4.from o1
   have f1:Fd s S4 o (tint o s.next 0) (fun _=>False):=y2.tint
   have k1:Im ptrE S4 (tint o s.next 0) v4 (ps++ps'):=by
    have:=y1.imn (o:=tint o s.next 0) (fun b hb=>tint_new (y3 b hb))
    simpa using this
   try simp -implicitDefEqProofs (disch:=first|exact dsc|fail)[]
   refine kidHalves_spec k1 ((h5.fd f1 (fun h=>h)).append (h5'.fd f1 (fun h=>h))) (by simp;omega) fun v5 qs S5 o5 f5 x5 y5=>?_
   try simp -implicitDefEqProofs (disch:=first|exact dsc|fail)[]
   exact kEnd_keep (hq v5 qs S5 o5 (f1.trans f5) x5 y5)
theorem mendN_eq{l:List (NT h)}{i j:Nat}{c:NT h}(hm:lenN h c<2/\1<l.length)(hje:mendJ l.length i=j)(h1:j<(l.set i c).length)(h2:j+1<(l.set i c).length):mendN h l i c=(l.set i c).take j++(joinN h (l.set i c)[j] (l.set i c)[j+1]++(l.set i c).drop (j+2)):=by
 subst hje;unfold mendN;rw[if_pos hm,List.getElem?_eq_getElem h1,List.getElem?_eq_getElem h2]
theorem delJ3xspec{v:Value}{qs:List Nat}{ts:List (NT h)}{j:Nat}{s0:St}(hv:Im ptrE s o v qs)(hN:NodesR s o h qs ts)(ho:∀u∈ts,OkN p h u)(hl:ts.length<=4)(hj:j+1<ts.length)
  (hq:∀n S o',Fd s S o o' (fun _=>False)->NodeR S o' (h+1) n (mkN (ts.take j++(joinN h ts[j] ts[j+1]++ts.drop (j+2))))->Q (.tuple #[.pointer (some ⟨n,0,none⟩),.bool true]) S):f180xJ3 (CC X) Q s0 (.int .i64 j) v s:=by
 have hql:=hN.1;have hjp:j<qs.length:=by omega
 have hjp':j+1<qs.length:=by omega
 have hji:(j:Int)+1<qs.length:=by omega
 have ej1:((j:Int)+1).toNat=j+1:=by omega
 have ej2:((j:Int)+2).toNat=j+2:=by omega
 have e1:=fun S (hS:Old s S)=>(hv.old hS).part (P:=P) (lo:=none) (hi:=some (.int .i64 j)) y_P_underlying_231 y_esz_231 ⟨by simp,by simp,by simp,by simp;omega⟩
 have e2:=fun S (hS:Old s S)=>(hv.old hS).part (P:=P) (lo:=some (.int .i64 ((j:Int)+2))) (hi:=none) y_P_underlying_231 y_esz_231 ⟨by simp;omega,by simp,by simp only[bnd_some,bnd_none];omega,by simp⟩
 simp only[bnd_some,bnd_none,Int.toNat_natCast]at e1 e2;rw[ej2]at e2;have i1:=hv.part_in (lo:=0) (hi:=j) (by omega) (by omega)
 have i2:=hv.part_in (lo:=j+2) (hi:=qs.length) (by omega) (Nat.le_refl _)
 rw[List.drop_zero,Nat.sub_zero]at i1;rw[List.take_of_length_le (by simp)]at i2
 have e1s:=e1 s (.refl _);have e2s:=e2 s (.refl _);have x2:=hv.1.one (n:=1) hjp'
 try simp -implicitDefEqProofs (disch:=first|exact dsc|fail)[hv.1.idx,hv.1.one,hjp,e1s,e2s,hji,ej1,x2]
 refine join_spec (hN.2 j hjp (by omega)) (hN.2 (j+1) hjp' hj) (ho _ (List.getElem_mem _)) (ho _ (List.getElem_mem _)) fun v3 rs S o' f1 y1 y2=>?_
 have oS:=f1.chg.old (fun _ _ h=>h);have j1:=i1.old oS;have j2:=i2.old oS
 try simp -implicitDefEqProofs (disch:=first|exact dsc|fail)[e1 S oS,e2 S oS]
 rw[bsl3 j1.1.data y1.1.data j2.1.data];have hrl:=(joinN_ok (ho _ (List.getElem_mem (show j<ts.length by omega))) (ho _ (List.getElem_mem hj))).2
 have lrs:=y2.1
 try simp -implicitDefEqProofs (disch:=first|exact dsc|fail)[]
 refine Concat_p (vs:=[partS 1 v 0 j,v3,partS 1 v (j+2) qs.length]) (xss:=[qs.take j,rs,qs.drop (j+2)]) (.made St.alloc_self (by simp) rfl rfl (by simp)) rfl (fun i hi hi'=>?_) (by simp) (by simp[lens];omega) fun v4 S4 w4=>?_
 ·match i with
  | 0=>exact(j1.old (by simp)).1
  | 1=>exact(y1.old (by simp)).1
  | 2=>exact(j2.old (by simp)).1
 ·have f2:Fd S S4 o' (tint o' S.next 0) (fun _=>False):=(Old.alloc (.refl _) |>.trans w4.old_).tint
  have hN4:NodesR S4 (tint o' S.next 0) h (qs.take j++(rs++qs.drop (j+2))) (ts.take j++(joinN h ts[j] ts[j+1]++ts.drop (j+2))):=
   NodesR.append (hN.take.fd (f1.trans f2) (fun h=>h)) ((y2.fd f2 (fun h=>h)).append (hN.drop.fd (f1.trans f2) (fun h=>h)))
  have hI:Im ptrE S4 (tint o' S.next 0) v4 (qs.take j++(rs++qs.drop (j+2))):=by
   obtain⟨ρ,y1,y2,y3⟩:=w4;have:=y1.imn (o:=tint o' S.next 0) (fun b hb=>tint_new (by have:=y3 b hb;simp at this;omega))
   simpa using this
  try simp -implicitDefEqProofs (disch:=first|exact dsc|fail)[]
  refine over_spec hI hN4 (by simp;omega) fun n5 S5 o5 f5 x5=>?_
  try simp -implicitDefEqProofs (disch:=first|exact dsc|fail)[]
  exact kEnd_keep (hq n5 S5 o5 ((f1.trans f2).trans f5) x5)
theorem pdel_spec:∀{h:Nat} {n:Nat} {t:NT h} {s:St} {o:Nat->Nat} {Q:Post},NodeR s o h n t->OkN p h t->
  (delN h t k=none->Q (.tuple #[.pointer (some ⟨n,0,none⟩),.bool false]) s)->
  (∀u n' S o',delN h t k=some u->Fd s S o o' (fun _=>False)->NodeR S o' h n' u->Q (.tuple #[.pointer (some ⟨n',0,none⟩),.bool true]) S)->CC X 180 [.pointer (some ⟨n,0,none⟩),spotV k] Q s
 | 0,n,t,s,o,Q,hn,ho,hq0,hq=>by
  have hlt:=hn.lt;have h4l:=ho.1;simp only[delN]at hq0 hq;refine f180xin rfl ?_
  try simp -implicitDefEqProofs (disch:=first|exact dsc|fail)[nil_ptr y_P_underlying_199]
  have o1:Old s (s.alloc (.cells (spotE.cells k) false)):=by simp
  have hb0:(s.alloc (.cells (spotE.cells k) false)).heap s.next=some (.cells (spotE.cells k) false):=St.alloc_self
  simp only[spotE_cells]at o1 hb0;generalize hs1:s.alloc (.cells [.int .i64 k.br,.int .i64 k.vol,.int .i64 k.blk,.int .u64 k.num] false)=s1 at *;have n1:s1.next=s.next+1:=by rw[<-hs1];simp
  refine Leaf_spec (hn.old o1) ho ?_
  try simp -implicitDefEqProofs (disch:=first|exact dsc|fail)[hb0]
  refine Find_spec (hn.old o1) ho ?_;have hfl:=fLeaf_le (l:=keysN 0 t) (k:=k);have hks:keysN 0 t=spots t:=rfl;rw[hks]at hfl;by_cases hhad:(fLeaf (spots t) k).2=true
  ·rw[if_pos hhad]at hq;obtain⟨hi,he⟩:=fLeaf_had hhad
   try simp -implicitDefEqProofs (disch:=first|exact dsc|fail)[findN,hks,hhad]
   refine leafs_spec (hn.old o1) ho fun kv vv ρ ρ' S o2 w1 w2 r1 r2 r3=>?_
   try simp -implicitDefEqProofs (disch:=first|exact dsc|fail)[]
   refine Delete_sp (i:=(fLeaf (spots t) k).1) (j:=(fLeaf (spots t) k).1+1) w1 (by omega) (by omega) (by omega) fun kv' S2 g1 g2=>?_
   try simp -implicitDefEqProofs (disch:=first|exact dsc|fail)[]
   have w2':=w2.same (s':=S2) g2.le (fun b hb=>g2.eq (by subst hb;exact w2.lt) (fun e=>r3 b e hb))
   refine Delete_u (i:=(fLeaf (spots t) k).1) (j:=(fLeaf (spots t) k).1+1) w2' (by simp;omega) (by omega) (by simp;omega) fun vv' S3 q1 q2=>?_
   have d1:=g1.in_.data;have d2:=q1.in_.data
   try simp -implicitDefEqProofs (disch:=first|exact dsc|fail)[d1,d2]
   have hmap:((spots t).map (·.num)).take (fLeaf (spots t) k).1++((spots t).map (·.num)).drop ((fLeaf (spots t) k).1+1)=((spots t).take (fLeaf (spots t) k).1++(spots t).drop ((fLeaf (spots t) k).1+1)).map (·.num):=by simp[List.map_take,List.map_drop]
   rw[hmap]at q1;have hle1:=o1.le;have hle2:=o2.le;have hle3:=g2.le;have hle4:=q2.le;have oS:Old s S3:=⟨by omega,fun {b} hb=>by
    rw[q2.eq (by omega) (fun e=>by have:=r2 b e;omega),g2.eq (by omega) (fun e=>by have:=r1 b e;omega),o2.eq (by omega),o1.eq hb]⟩
   have k1:Im spotE S3 (tint o s.next 0) kv' ((spots t).take (fLeaf (spots t) k).1++(spots t).drop ((fLeaf (spots t) k).1+1)):=(g1.same q2.le (fun b hb=>q2.eq (by subst hb;exact g1.lt) (fun e=>r3 b hb e))).imn (fun b hb=>tint_new (by have:=r1 b hb;omega))
   have k2:Im (intE .u64) S3 (tint o s.next 0) vv' (((spots t).take (fLeaf (spots t) k).1++(spots t).drop ((fLeaf (spots t) k).1+1)).map (·.num)):=q1.imn (fun b hb=>tint_new (by have:=r2 b hb;omega))
   have f1:Fd s S3 o (tint o s.next 0) (fun _=>False):=oS.tint
   have f2:Fd S3 (S3.alloc (.cells [kv',vv',.slice none 0 0] false)) (tint o s.next 0) (tint (tint o s.next 0) S3.next 0) (fun _=>False):=(Old.alloc (.refl _)).tint
   exact kEnd_keep (hq _ S3.next _ _ rfl (f1.trans f2) (.leaf ⟨by simp,by simp⟩ (tint_new (Nat.le_refl _)) (k1.fd f2 (fun h=>h)) (k2.fd f2 (fun h=>h))))
  ·rw[if_neg hhad]at hq0
   try simp -implicitDefEqProofs (disch:=first|exact dsc|fail)[findN,hks,hhad]
   exact kEnd_back o1 (bel_tuple (by simp[hlt])) (hq0 rfl)
 | h+1,n,t,s,o,Q,hn,ho,hq0,hq=>by
  have hlt:=hn.lt;obtain⟨g1,g2,g3⟩:=ho;obtain⟨kv,dv,ps,h1,h2,h3,h4,h5⟩:=hn.kids;have hps:=h5.1;have hi:=fIn_lt (l:=keysN (h+1) t) (k:=k) (by rw[keysN_len];exact g1)
  rw[keysN_len]at hi;have hi:(fIn (keysN (h+1) t) k).1<(kids t).length:=hi;simp only[delN]at hq0 hq;rw[List.getElem?_eq_getElem hi]at hq0 hq;simp only at hq0 hq;have hokk:=g3 _ (List.getElem_mem hi);refine f180xin rfl ?_
  try simp -implicitDefEqProofs (disch:=first|exact dsc|fail)[nil_ptr y_P_underlying_199]
  have o1:Old s (s.alloc (.cells (spotE.cells k) false)):=by simp
  have hb0:(s.alloc (.cells (spotE.cells k) false)).heap s.next=some (.cells (spotE.cells k) false):=St.alloc_self
  simp only[spotE_cells]at o1 hb0;generalize hs1:s.alloc (.cells [.int .i64 k.br,.int .i64 k.vol,.int .i64 k.blk,.int .u64 k.num] false)=s1 at *;have n1:s1.next=s.next+1:=by rw[<-hs1];simp
  have hn1:=hn.old o1;refine Leaf_spec hn1 ⟨g1,g2,g3⟩ ?_
  try simp -implicitDefEqProofs (disch:=first|exact dsc|fail)[hb0]
  refine way_spec hn1 ⟨g1,g2,g3⟩ ?_;generalize (fIn (keysN (h+1) t) k).1=i at *;have hip:i<ps.length:=by omega
  have h4':=h4.old o1;have h1':=h1.old o1
  try simp -implicitDefEqProofs (disch:=first|exact dsc|fail)[h1'.eq,hb0,h4'.1.idx,h4'.1.one,hip]
  refine pdel_spec ((h5.2 i hip hi).old o1) hokk (fun hnone=>?_) fun c n' S o' hsome f1 x1=>?_
  ·try simp -implicitDefEqProofs (disch:=first|exact dsc|fail)[]
   exact kEnd_back o1 (bel_tuple (by simp[hlt])) (hq0 (by rw[hnone];rfl))
  ·have hokc:=delN_ok hokk hsome;have oS:=f1.chg.old (fun _ _ h=>h);have oS':=o1.trans oS;have h1S:=h1.old oS';have hnS:=h1S.lt;have h4S:=h4.old oS'
   try simp -implicitDefEqProofs (disch:=first|exact dsc|fail)[h1S.eq]
   refine Clone_p h4S.1 (by omega) fun v2 S2 w2=>?_
   obtain⟨ρ,y1,y2,y3⟩:=w2;have hI:=y1.in_
   try simp -implicitDefEqProofs (disch:=first|exact dsc|fail)[hI.idx,hip]
   refine y1.store1 (a:=n') hip rfl rfl fun S3 w3 c3 n3=>?_;have hle3:=c3.le;have oS3:Old S S3:=⟨by have:=y2.le;omega,fun {b} hb=>by rw[c3.eq (by have:=y2.le;omega) (fun e=>by have:=y3 b e;omega),y2.eq hb]⟩
   have x3:=x1.old oS3
   try simp -implicitDefEqProofs (disch:=first|exact dsc|fail)[]
   refine size_spec x3 hokc ?_;have hf0:Fd s s1 o o (fun _=>False):=o1.fd;have f3:Fd S S3 o' (tint o' S.next 0) (fun _=>False):=oS3.tint
   have fA:=(hf0.trans f1).trans f3;have hI3:Im ptrE S3 (tint o' S.next 0) v2 (ps.set i n'):=w3.imn (fun b hb=>tint_new (y3 b hb))
   have hN3:NodesR S3 (tint o' S.next 0) h (ps.set i n') ((kids t).set i c):=(h5.fd fA (fun h=>h)).set (x1.fd f3 (fun h=>h))
   have hll:=fun S=>w3.in_.len (P:=P) (s':=S) y_P_underlying_231;have hsl:(ps.set i n').length=ps.length:=by simp
   rw[hsl]at hll;simp only[hsome,Option.map_some]at hq;by_cases hm:lenN h c<2/\1<(kids t).length
   ·obtain⟨m1,m2⟩:=hm;have m1':(lenN h c:Int)<2:=by omega
    have m2':(1:Int)<ps.length:=by omega
    have hj:=mendJ_lt hi m2;have hw1:IntKind.i64.wrap ((ps.length:Int)-1)=(ps.length:Int)-1:=wrap_i64 (by omega) (by omega)
    have hok3:∀u∈(kids t).set i c,OkN p h u:=fun u hu=>(List.mem_or_eq_of_mem_set hu).elim (fun e=>g3 u e) (fun e=>by rw[e];exact hokc)
    have key:∀j:Nat,mendJ (kids t).length i=j->f180xJ3 (CC X) Q s (.int .i64 j) v2 S3:=by
     intro j hje;rw[hje]at hj;refine delJ3xspec hI3 hN3 hok3 (by simp;omega) (by simp;omega) fun n5 S5 o5 f5 x5=>?_
     refine hq _ n5 S5 o5 rfl (fA.trans f5) ?_;rw[mendN_eq ⟨m1,m2⟩ hje (by simp;omega) (by simp;omega)]
     exact x5
    by_cases hlast:(i:Int)=(ps.length:Int)-1
    ·have hj1:=key (i-1) (by unfold mendJ;rw[if_pos (by omega)])
     have ei:((i-1:Nat):Int)=(ps.length:Int)-1-1:=by omega
     rw[ei]at hj1;have hw2:IntKind.i64.wrap ((ps.length:Int)-1-1)=(ps.length:Int)-1-1:=wrap_i64 (by omega) (by omega)
     try simp -implicitDefEqProofs (disch:=first|exact dsc|fail)[-f180xJ1,-f180xJ2,-f180xJ3,-f180xJ4,-f180xJ5,-f180xJ6,m1',m2',hll,hw1,hw2,hlast]
     exact hj1
    ·have hj1:=key i (by unfold mendJ;rw[if_neg (by omega)])
     try simp -implicitDefEqProofs (disch:=first|exact dsc|fail)[-f180xJ1,-f180xJ2,-f180xJ3,-f180xJ4,-f180xJ5,-f180xJ6,m1',m2',hll,hw1,hlast]
     exact hj1
   ·rw[show mendN h (kids t) i c=(kids t).set i c by unfold mendN;rw[if_neg hm]]at hq
    have hm':(lenN h c:Int)<2->¬(1:Int)<ps.length:=fun e1 e2=>hm ⟨by omega,by omega⟩
    have fin:f180xJ2 (CC X) Q s v2 S3:=by
     try simp -implicitDefEqProofs (disch:=first|exact dsc|fail)[]
     refine over_spec hI3 hN3 (by simp;omega) fun n5 S5 o5 f5 x5=>?_
     try simp -implicitDefEqProofs (disch:=first|exact dsc|fail)[]
     exact kEnd_keep (hq _ n5 S5 o5 rfl (fA.trans f5) x5)
    by_cases m1:(lenN h c:Int)<2
    ·have m2:=hm' m1
     try simp -implicitDefEqProofs (disch:=first|exact dsc|fail)[-f180xJ1,-f180xJ2,-f180xJ3,-f180xJ4,-f180xJ5,-f180xJ6,m1,m2,hll]
     exact fin
    ·try simp -implicitDefEqProofs (disch:=first|exact dsc|fail)[-f180xJ1,-f180xJ2,-f180xJ3,-f180xJ4,-f180xJ5,-f180xJ6,m1,hll]
     exact fin
theorem topN_one{t:NT (h+1)}{u:NT h}(hk:kids t=[u]):topN (h+1) t=topN h u:=by simp only[topN,hk]
theorem topN_more{t:NT (h+1)}(hk:(kids t).length≠1):topN (h+1) t=⟨h+1,t⟩:=by
 match hkk:kids t with
 | [u]=>rw[hkk]at hk;exact absurd rfl hk
 | []=>simp only[topN,hkk]
 | a::b::r=>simp only[topN,hkk]
def rootOf(a:AN):Option AN:=if a.1=0/\lenN a.1 a.2=0 then none else some a
theorem pDel_spec{t:NT h}(hn:NodeR s o h n t)(ho:OkN p h t)(hq0:delN h t k=none->Q (.tuple #[.pointer (some ⟨n,0,none⟩),.bool false]) s)
  (hq1:∀u S o',delN h t k=some u->Fd s S o o' (fun _=>False)->rootOf (topN h u)=none->Q (.tuple #[.pointer none,.bool true]) S)
  (hq2:∀u a n' S o',delN h t k=some u->Fd s S o o' (fun _=>False)->rootOf (topN h u)=some a->NodeR S o' a.1 n' a.2->Q (.tuple #[.pointer (some ⟨n',0,none⟩),.bool true]) S):CC X 152 [.pointer (some ⟨n,0,none⟩),spotV k] Q s:=by
 have hlt:=hn.lt;refine f152xin rfl ?_
 try simp -implicitDefEqProofs (disch:=first|exact dsc|fail)[]
 have o1:Old s (s.alloc (.cells [.int .i64 k.br,.int .i64 k.vol,.int .i64 k.blk,.int .u64 k.num] false)):=by simp
 generalize hs1:s.alloc (.cells [.int .i64 k.br,.int .i64 k.vol,.int .i64 k.blk,.int .u64 k.num] false)=s1 at *;refine pdel_spec (hn.old o1) ho (fun hnone=>?_) fun c n' S o' hsome f1 x1=>?_
 ·try simp -implicitDefEqProofs (disch:=first|exact dsc|fail)[]
  exact kEnd_back o1 (bel_tuple (by simp[hlt])) (hq0 hnone)
 ·try simp -implicitDefEqProofs (disch:=first|exact dsc|fail)[]
  refine f152xloop0 fun I hI=>?_;have hokc:=delN_ok ho hsome;have key:∀(h' n':Nat) (w:NT h'),OkN p h' w->NodeR S o' h' n' w->topN h' w=topN h c->I (.pointer (some ⟨n',0,none⟩)) S:=by
   intro h';induction h' with
   | zero=>
    intro n' w how hw hr;refine hI _ _ ?_;obtain⟨kv,vv,h1,h2,h3,h4⟩:=id hw;have hl3:=fun S=>h3.1.len (P:=P) (s':=S) y_P_underlying_230
    try simp -implicitDefEqProofs (disch:=first|exact dsc|fail)[h1.eq]
    refine Leaf_spec hw how ?_;have hr':topN 0 w=⟨0,w⟩:=rfl;rw[hr']at hr;by_cases he:(spots w).length=0
    ·have hei:((spots w).length:Int)=0:=by omega
     try simp -implicitDefEqProofs (disch:=first|exact dsc|fail)[h1.eq,hl3,he,hei]
     exact kEnd_keep (hq1 c S o' hsome (o1.fd.trans f1) (by rw[<-hr];exact if_pos ⟨rfl,he⟩))
    ·have hei:¬((spots w).length:Int)=0:=by omega
     have he2:¬spots w=[]:=fun e=>he (by rw[e];rfl)
     try simp -implicitDefEqProofs (disch:=first|exact dsc|fail)[h1.eq,hl3,he2,hei]
     exact kEnd_keep (hq2 c ⟨0,w⟩ n' S o' hsome (o1.fd.trans f1) (by rw[<-hr];exact if_neg (fun e=>he e.2)) hw)
   | succ h' ih=>
    intro n' w how hw hr;refine hI _ _ ?_;obtain⟨g1,g2,g3⟩:=id how;obtain⟨kv,dv,ps,h1,h2,h3,h4,h5⟩:=hw.kids;have hl4:=fun S=>h4.1.len (P:=P) (s':=S) y_P_underlying_231;have hps:=h5.1;by_cases he:ps.length=1
    ·have hei:(ps.length:Int)=1:=by omega
     have h0:0<ps.length:=by omega
     have hi:=fun(q:IntKind)=>h4.1.idx (q:=q) (ag:=false) (j:=0) (by omega) (by omega)
     have hg:=h4.1.one (i:=0) (n:=1) h0;simp only[Int.toNat_zero,Nat.zero_mul,ptrE_cells]at hi hg
     try simp -implicitDefEqProofs (disch:=first|exact dsc|fail)[h1.eq,hl4,hei,hi,hg,nil_ptr_ne y_P_underlying_199]
     obtain⟨u,hu⟩:∃u,kids w=[u]:=List.length_eq_one_iff.1 (by omega)
     have x:=h5.2 0 h0 (by omega)
     have e0:(kids w)[0]'(by omega)=u:=by simp[hu]
     rw[e0]at x;have:=ih ps[0] u (g3 u (by rw[hu];simp)) x (by rw[<-topN_one hu];exact hr)
     simpa using this
    ·have hei:¬(ps.length:Int)=1:=by omega
     try simp -implicitDefEqProofs (disch:=first|exact dsc|fail)[h1.eq,hl4,hei]
     refine Leaf_spec hw how ?_;rw[topN_more (by omega)]at hr
     try simp -implicitDefEqProofs (disch:=first|exact dsc|fail)[]
     exact kEnd_keep (hq2 c ⟨h'+1,w⟩ n' S o' hsome (o1.fd.trans f1) (by rw[<-hr];exact if_neg (fun e=>by cases e.1)) hw)
  exact key h n' c hokc x1 rfl
theorem pDel_nil(hq:Q (.tuple #[.pointer none,.bool false]) s):CC X 152 [.pointer none,spotV k] Q s:=by
 refine f152xin rfl ?_
 try simp -implicitDefEqProofs (disch:=first|exact dsc|fail)[]
 refine f180xin rfl ?_
 try simp -implicitDefEqProofs (disch:=first|exact dsc|fail)[nil_nil y_P_underlying_199]
 exact kEnd_back (by repeat (first|exact Old.refl _|apply Old.alloc)) (bel_tuple (by simp)) (kEnd_back (by simp) (bel_tuple (by simp)) hq)
end
end Go.Zz
