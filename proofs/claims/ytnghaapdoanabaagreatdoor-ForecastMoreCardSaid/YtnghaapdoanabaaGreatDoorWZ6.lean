/-
  With more room none is refused earlier (ForecastMore): proved is that, whatever the input, the law returns true, and each argument reads behind the call as it read before; the listed variable is tied to the text of the program.
  Conditions: none.
-/
import Derived.Test.YtnghaapdoanabaaGreatDoorWV6
import Derived.Test.YtnghaapdoanabaaGreatDoorWP1
import Derived.Test.YtnghaapdoanabaaGreatDoorTie
import Derived.Test.YtnghaapdoanabaaGreatDoorCards
import Derived.WalkKit
import Derived.ProofKit
import Derived.OpenShut
import Derived.ChangeOld
import Derived.Below
import Derived.Handed
import Derived.SevenTiedAt
set_option linter.all false
set_option maxRecDepth 20000
set_option linter.all false
namespace Go.Proofs.YtnghaapdoanabaaGreatDoor.forecastMore
open Go Go.ChangeShapes Go.WideShapes Go.ChangeAt Go.RowKit
open Go.Zz (A2x A6c A3o A6a A8n A3m A3x A3c)
set_option linter.unusedVariables false
abbrev laid1 : List (String × DataW Unit) := [("erewhile/mind.kinds", Rows.laid_erewhile_mind_kinds)]
theorem own:ownKnob Tryz.prog.godebug=none:=by kernel_rfl
theorem laidOut:laidOutB Tryz.prog=true:=by kernel_rfl
theorem door_met(os:Os)(args:Array Value):laidMetH Tryz.prog laid1 ((World.doorLaid Tryz.prog 54 os).forCall (fun _ _=>0) ⟨#[],args,[]⟩).memory:=
 laidMetH_of_parts3 (fuel:=8) (laidMet_of_run' 8 (by kernel_rfl) (by kernel_rfl)) (by kernel_rfl) (by kernel_rfl)
theorem walk(a0:Option Addr)(len0 cap0:Nat)(z0:List Go.Zz.RuleM)(a1:Option Addr)(len1 cap1:Nat)(z1:List Go.Zz.StepM)(a2:Int)(a3:Int)(a4:Int)(a5:Int)(w:World)(hsh:w.ShapedOpen Tryz.prog)(hL:laidMetH Tryz.prog laid1 w)(w0:A2x A3m w a0 len0 cap0 z0)(w1:A2x A3x w a1 len1 cap1 z1)(ha:∀x∈z1,0<=x.a)(h2:0<=a2/\a2<256)(h3:0<=a3/\a3<256)(h4:0<=a4/\a4<256)(h5:0<=a5/\a5<256) :
  Calls Tryz.prog 5 #[.slice a0 len0 cap0,.slice a1 len1 cap1,.int .u8 a2,.int .u8 a3,.int .u8 a4,.int .u8 a5] w fun e w'=>e=.returned (.bool true)/\Below w.heap.size w w':=by
 obtain⟨bm,es,ck,hT,hK⟩:=A8n hsh hL;obtain⟨H,hk,hp,hs⟩:=A6c w (A3o a0 (cap0*3)++A3o a1 (cap1*7)) (fun r hr=>by
  simp only[List.mem_append]at hr;rcases hr with hr|hr
  ·exact w0.known r hr
  ·exact w1.known r hr)
 obtain⟨v0,r0,s0⟩:=w0.val (es:=es) (ck:=ck) (bm:=bm) (by decide) hk (fun r hr=>hs r (by simp[hr]))
 obtain⟨v1,r1,s1⟩:=w1.val (es:=es) (ck:=ck) (bm:=bm) (by decide) hk (fun r hr=>hs r (by simp[hr]))
 refine A6a (args:=[v0,v1,.int .u8 a2,.int .u8 a3,.int .u8 a4,.int .u8 a5]) hT hk hp (by kernel_rfl) ?_ ?_
 ·refine⟨rfl,fun i x y hx hy=>?_⟩
  match i,hx,hy with
  | 0,hx,hy=>cases hx;cases hy;exact r0
  | 1,hx,hy=>cases hx;cases hy;exact r1
  | 2,hx,hy=>cases hx;cases hy;exact .one (.int _ _)
  | 3,hx,hy=>cases hx;cases hy;exact .one (.int _ _)
  | 4,hx,hy=>cases hx;cases hy;exact .one (.int _ _)
  | 5,hx,hy=>cases hx;cases hy;exact .one (.int _ _)
 ·exact Go.Zz.More_spec h2 h3 h4 h5 (hK H) s0 s1 (fun x hx=>ha x (List.mem_of_mem_take hx))  ⟨rfl,rfl⟩
set_option maxRecDepth 100000 in
theorem lifted(os:Os)(started:os.Started)(H:Type)(enc:TypeId×Value->H) :
  ReturnsInHanded {} Tryz.checked os 5 .any (fun w args=>(Rows.forecastMoreSpec.pre enc Tryz.prog Tryz.f5 [] false w args/\laidMetH Tryz.prog laid1 w)/\sizedMet enc Tryz.prog Tryz.f5 (OpenSpec.ofChange Rows.forecastMoreSpec) false w args)
   (Rows.forecastMoreSpec.post enc Tryz.prog Tryz.f5 false true false false):=by
 refine Go.Zz.handed_shaped (C:=Tryz.checked) (X:=fun w _=>laidMetH Tryz.prog laid1 w) (fun _ _ _ hh h=>h.of_heap hh) own started (by kernel_rfl) Tryz.func5
  (ChangeSpec.witness_shaped (enc:=enc) (C:=Tryz.checked) (os:=os) (X:=fun w _=>laidMetH Tryz.prog laid1 w) false (World.doorLaid Tryz.prog 54 os) #[.slice none 0 0,.slice none 0 0,.int .u8 0,.int .u8 0,.int .u8 0,.int .u8 0] 8 rfl (World.shaped_of_RefB (by kernel_rfl) (by kernel_rfl)) (by kernel_rfl) (by kernel_rfl) (by kernel_rfl) (door_met os _)) ?_
 intro W base args ds gs before hval0 hW hL hsh;have hval:∀(j:Nat) t v,Tryz.f5.params[j]?=some t->args[j]?=some v->Value.okWide Tryz.prog W .any base t v:=hval0;have hW':=hW;obtain⟨p,q,hA0,hV,rfl,hfz,hnd⟩:=hW;have hA:DataW.TrodAll enc Tryz.prog W 0 (fun _=>true) true Tryz.f5.params.toList args.toList ds p:=hA0;rw[Tryz.params5]at hA hval;obtain⟨v0,vs0,d0,ds0,p0,q0,hargs,rfl,rfl,h0,r0⟩:=trodAll_cons hA;obtain⟨v1,vs1,d1,ds1,p1,q1,rfl,rfl,rfl,h1,r1⟩:=trodAll_cons r0;obtain⟨v2,vs2,d2,ds2,p2,q2,rfl,rfl,rfl,h2,r2⟩:=trodAll_cons r1;obtain⟨v3,vs3,d3,ds3,p3,q3,rfl,rfl,rfl,h3,r3⟩:=trodAll_cons r2;obtain⟨v4,vs4,d4,ds4,p4,q4,rfl,rfl,rfl,h4,r4⟩:=trodAll_cons r3;obtain⟨v5,vs5,d5,ds5,p5,q5,rfl,rfl,rfl,h5,r5⟩:=trodAll_cons r4;obtain⟨rfl,rfl,rfl⟩:=trodAll_nil r5;obtain rfl:args=#[v0,v1,v2,v3,v4,v5]:=by cases args;simp_all
 obtain⟨rfl,rfl⟩:=trodVars_none hV;obtain⟨a0,len0,cap0,rfl⟩:=okWide_slice Tryz.underlying22 (hval 0 22 v0 rfl rfl);have k0:=h0;have lt0:∀x∈p0,x.block<W.heap.size:=by obtain⟨m,hm⟩:=k0;exact DataW.trod_lt m _ _ _ hm
 obtain⟨z0,w0,_⟩:=A3c (E:=A3m) (ok:=fun _=>True) (by decide) Tryz.underlying22 Go.Zz.c72 Go.Zz.rule_plain Go.Zz.rule_el h0 (fun b o h=>hfz _ _ (by simp only[List.mem_append];exact .inl (.inl h)))
 obtain⟨a1,len1,cap1,rfl⟩:=okWide_slice Tryz.underlying23 (hval 1 23 v1 rfl rfl);have k1:=h1;have lt1:∀x∈p1,x.block<W.heap.size:=by obtain⟨m,hm⟩:=k1;exact DataW.trod_lt m _ _ _ hm
 obtain⟨z1,w1,ha⟩:=A3c (E:=A3x) (ok:=fun x=>0<=x.a) (by decide) Tryz.underlying23 Go.Zz.c60 Go.Zz.step_plain Go.Zz.step_el h1 (fun b o h=>hfz _ _ (by simp only[List.mem_append];exact .inl (.inr (.inl h))))
 obtain⟨a2,rfl,rfl,rfl,w2⟩:=open_int Tryz.underlying5 (hval 2 5 v2 rfl rfl) h2;obtain⟨a3,rfl,rfl,rfl,w3⟩:=open_int Tryz.underlying5 (hval 3 5 v3 rfl rfl) h3;obtain⟨a4,rfl,rfl,rfl,w4⟩:=open_int Tryz.underlying5 (hval 4 5 v4 rfl rfl) h4;obtain⟨a5,rfl,rfl,rfl,w5⟩:=open_int Tryz.underlying5 (hval 5 5 v5 rfl rfl) h5;clear hA0 hval0;refine(walk a0 len0 cap0 z0 a1 len1 cap1 z1 a2 a3 a4 a5 W hsh hL w0 w1 ha (Go.Zz.u8xrng w2) (Go.Zz.u8xrng w3) (Go.Zz.u8xrng w4) (Go.Zz.u8xrng w5)).mono fun e W' ⟨he,bel⟩=>?_;subst he;exact⟨_,rfl,_,_,_,[],_,[],hW',trodAll_mk1 (shut_bool Tryz.underlying4 _),(trodAll_cons_mk (Below.trod laidOut (by kernel_rfl) (of_decide_eq_true (by kernel_rfl)) k0 bel lt0) (trodAll_cons_mk (Below.trod laidOut (by kernel_rfl) (of_decide_eq_true (by kernel_rfl)) k1 bel lt1) (trodAll_cons_mk (shut_int Tryz.underlying5 w2) (trodAll_cons_mk (shut_int Tryz.underlying5 w3) (trodAll_cons_mk (shut_int Tryz.underlying5 w4) (trodAll_cons_mk (shut_int Tryz.underlying5 w5) trodAll_mk0)))))),rfl,bel.frame _,fun h=>by cases h⟩
theorem over:Rows.ForecastMoreSaid:=
 OpenClaim.holds_of_wide 5 Tryz.f5 rfl rfl rfl rfl rfl rfl rfl ⟨rfl,rfl,rfl,rfl,rfl⟩ rfl rfl rfl rfl rfl (by kernel_rfl) Tryz.func5 (by kernel_rfl)
  (of_decide_eq_true (by kernel_rfl)) (by unfold Func.isWrapper;first|(rw[if_pos (by decide +kernel)];kernel_rfl)|(rw[if_neg (by decide +kernel)];exact⟨rfl,rfl⟩))
  (fun os started H enc _=>lifted os started H enc)
theorem proved:Rows.ForecastMoreCardSaid:=
 Claim7.holds_tied_plain_at .later [] [.funcs] true (true, "849969cd6586223812e49ce294f2393b2706edb45e5e5d59064a4b23bf4dd5ef") false
  over (fun _ h=>by cases h) (by kernel_rfl) (fun _ h=>by cases h) forecastMore_row_tie rfl ⟨rfl,rfl⟩ (by kernel_rfl) rfl
  (fun f fn hf hfn=>by
   obtain rfl : f = 5 := Option.some.inj ((show Tryz.prog.funcNamed "erewhile/erewhilelaw65.ForecastMore" = some 5 by kernel_rfl).symm.trans hf) |>.symm
   obtain rfl:fn=Tryz.f5:=(Option.some.inj (Tryz.func5.symm.trans hfn)).symm;exact⟨by kernel_rfl,fun j t ht=>by
    rw[Tryz.params5]at ht;have hm:t∈[22,23,5,5,5,5]:=by simpa using Array.mem_of_getElem? ht
    have hall:([22,23,5,5,5,5].all fun u=>!Tryz.prog.wantsStandIn u)=true:=by kernel_rfl
    exact(show Tryz.prog.wantsStandIn t=false by simpa using List.all_eq_true.1 hall t hm)⟩)
  (by kernel_rfl)
#print axioms proved
end Go.Proofs.YtnghaapdoanabaaGreatDoor.forecastMore
