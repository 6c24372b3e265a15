import Derived.Test.YtnghaapdoanabaaGreatDoorC
import Derived.Laws.Pointers
import Derived.Laws.StructEq
import Derived.Laws.Tables
set_option linter.all false
namespace Go.Zz
open Go
variable {P : Program} {n : Nat} {J : Nat → Plc}
theorem D4d{op:BinOp}{k:IntKind}{a b:Int}{v:Value}(h:A90 op k a b=some v)(h1:op≠.shl)(h2:op≠.shr)(t:TypeId)(w:World) :
  (binOp op t (.int k a) (.int k b)).run P w=.ok v w/\∃u,v=.int k u\/∃c,v=.bool c:=by
 cases op<;>simp[A90]at h<;>first
  |(exact absurd rfl h1)
  |(exact absurd rfl h2)
  |(subst h;simp[Op.intArith,binOp];done)
  |(subst h;simp[Op.intCmp,binOp];done)
  |(obtain⟨hb,rfl⟩:=h;simp[Op.intDiv,hb,binOp];done)
  |(subst h;rw[binOp_and,intBits_and];simp;done)
  |(subst h;rw[binOp_or,intBits_or];simp;done)
  |(subst h;rw[binOp_xor,intBits_xor];simp;done)
  |(subst h;rw[binOp_andNot,intBits_andNot];simp;done)
theorem B4i{op:BinOp}{k k':IntKind}{a b:Int}{v:Value}(h:B5d op k a b=some v)(t:TypeId)(w:World) :
  (binOp op t (.int k a) (.int k' b)).run P w=.ok v w/\∃u,v=.int k u:=by
 unfold B5d at h;split at h
 ·cases h
 ·rename_i hb;cases op<;>simp at h<;>subst h
  ·simp[binOp,Op.shift,hb]
  ·simp[binOp,Op.shift,hb]
theorem B3x{t:TypeId}{x y:Value}{w:World}{r:Result Bool}(h:∀d,(Op.equalIn (d+1) t x y).run P w=r):(Op.equal t x y).run P w=r:=h 9999
theorem A5a{op:BinOp}{b:Bool}{v:Value}(h:eqOp op b=some v){t:TypeId}{x y:Value}{w:World}(he:(Op.equal t x y).run P w=.ok b w)
  (hx:binOp .eql t x y=(do pure (.bool (<-Op.equal t x y)))/\binOp .neq t x y=(do pure (.bool (!(<-Op.equal t x y))))) :
  (binOp op t x y).run P w=.ok v w/\∃c,v=.bool c:=by
 cases op<;>simp[eqOp]at h<;>subst h
 ·rw[hx.1];simp[he]
 ·rw[hx.2];simp[he]
theorem D9w{op:BinOp}{a b:ByteArray}{v:Value}(h:E4r op a b=some v)(t:TypeId)(w:World) :
  (binOp op t (.string a) (.string b)).run P w=.ok v w/\((∃s,v=.string s)\/∃c,v=.bool c):=by
 cases op<;>simp[E4r]at h
 ·obtain⟨hb,rfl⟩:=h;have:¬(9223372036854775807<(a.size:Int)+(b.size:Int)):=by omega
  simp[binOp,Op.stringOp,this]
 all_goals (subst h;refine⟨by simp[binOp,Op.stringOp],.inr ⟨_,rfl⟩⟩)
theorem D2q{c a b c' a' b' v:Value}(h:A6r c a b=some v)(hc:VR n J false c c')(ha:VR n J false a a')(hb:VR n J false b b') :
  ∃v',VR n J false v v'/\∀w,(do pure (Next.value (if <-asBool c' then a' else b')):Sem Next).run P w=.ok (.value v') w:=by
 unfold A6r at h;split at h
 ·cases h;cases hc.bool_inv;exact⟨a',ha,fun w=>by simp[asBool]⟩
 ·cases h;cases hc.bool_inv;exact⟨b',hb,fun w=>by simp[asBool]⟩
 ·cases h
theorem F5i{op:UnOp}{x x' v:Value}(h:unV op x=some v)(hx:VR n J false x x'):VR n J false v v/\∀w,(Op.unary op x').run P w=.ok v w:=by
 unfold unV at h;split at h<;>cases h
 ·cases hx.int_inv;exact⟨.one (.int _ _),fun w=>by simp[Op.unary,Op.intArith]⟩
 ·cases hx.int_inv;exact⟨.one (.int _ _),fun w=>by simp[Op.unary,intBits_xor]⟩
 ·cases hx.bool_inv;exact⟨.one (.bool _),fun w=>by simp[Op.unary]⟩
theorem E2q{x x' v:Value}(h:nilV x=some v)(hx:VR n J false x x'):VR n J false v x'/\((∃a,x'=.pointer (some a))\/(∃f a b,x'=.func (.func f) a b)\/∃t u,x'=.iface t u):=by
 unfold nilV at h;split at h<;>cases h
 ·exact⟨hx,.inl ⟨_,hx.ptr_inv.2.2⟩⟩
 ·obtain⟨fs,cs,e,_⟩:=hx.func_inv;exact⟨hx,.inr (.inl ⟨_,_,_,e⟩)⟩
 ·obtain⟨u,e,_⟩:=hx.iface_inv;exact⟨hx,.inr (.inr ⟨_,_,e⟩)⟩
theorem A57{t:TypeId}{ag:Bool}{m:Nat}(h:tAgg P t=some (ag,m)) :
  ∃i,P.info? t=some i/\i.size=m/\∀w,(isAgg t).run P w=.ok ag w:=by
 unfold tAgg at h;split at h
 ·rename_i hu hi;cases h;exact⟨_,hi,rfl,fun w=>by simp[isAgg,run_underlying hu]⟩
 ·rename_i hu hi;cases h;exact⟨_,hi,rfl,fun w=>by simp[isAgg,run_underlying hu]⟩
 ·rename_i d i h1 h2 hu hi;cases h;refine⟨_,hi,rfl,fun w=>?_⟩;simp only[isAgg,Sem.run_bind,run_underlying hu,Result.andThen_ok];rfl
 ·cases h
theorem A1d{t:TypeId}{i:TypeInfo}(h:P.info? t=some i)(w:World):(sizeOf t).run P w=.ok i.size w:=by simp[sizeOf,typeInfo,h]
theorem B49{t:TypeId}{f off:Nat}{ag:Bool}{m:Nat}(h:A0q P t f=some (off,ag,m)) :
  ∃fs fd,P.underlying t=some (.struct fs)/\fs[f]?=some fd/\fd.offset=off/\tAgg P fd.type=some (ag,m)/\m≠0:=by
 unfold A0q at h;split at h
 ·rename_i fs hu;split at h
  ·rename_i fd hf;split at h
   ·rename_i ag' m' ha;split at h
    ·cases h
    ·rename_i hm;cases h;exact⟨fs,fd,hu,hf,rfl,ha,hm⟩
   ·cases h
  ·cases h
 ·cases h
theorem B5n(m:Plc)(a:Addr)(k:Nat):(tr m a).add k=tr m ⟨a.block,a.off+k,none⟩:=by
 simp[tr,Addr.add_lit,Nat.add_assoc]
theorem D0z{t:TypeId}{f:Nat}{x x' v:Value}(h:A71 (A0q P t f) x=some v)(hx:VR n J false x x') :
  ∃v',VR n J false v v'/\∀w,(Instr.fieldAt t x' f).run P w=.ok v' w:=by
 unfold A71 at h;split at h
 ·rename_i off ag m a hf;cases h;obtain⟨fs,fd,hu,hfd,hoff,hag,hm⟩:=B49 hf;obtain⟨i,hi,hsz,_⟩:=A57 hag;obtain⟨hb,hs,rfl⟩:=hx.ptr_inv;refine⟨_,.one (.ptr (a:=⟨a.block,a.off+off,none⟩) hb rfl),fun w=>?_⟩;have:i.size≠0:=by omega
  simp[Instr.fieldAt,run_underlying hu,hfd,Instr.sureAddr,fieldPlace,A1d hi,this,hoff,B5n]
 ·cases h
theorem C3t{cs cs':Array Value}(hs:cs.size=cs'.size)(h:∀(i:Nat) (x y:Value),cs[i]?=some x->cs'[i]?=some y->VR n J true x y)(a b:Nat) :
  VR n J false (.agg (cs.extract a b)) (.agg (cs'.extract a b)):=by
 refine .agg (by simp[hs]) (fun i x y hx hy=>?_)
 rw[Array.getElem?_extract]at hx hy;split at hx
 ·split at hy
  ·exact h _ x y hx hy
  ·cases hy
 ·cases hx
theorem B4c{ft off m:Nat}{ag:Bool}{cs cs':Array Value}{v:Value}(ha:tAgg P ft=some (ag,m))(h:B6l (some (off,ag,m)) (.agg cs)=some v)(hs:cs.size=cs'.size)
  (hr:∀(i:Nat) (x y:Value),cs[i]?=some x->cs'[i]?=some y->VR n J true x y):∃v',VR n J false v v'/\∀w,(part ft cs' off).run P w=.ok v' w:=by
 obtain⟨i,hi,hsz,hag⟩:=A57 ha;simp only[B6l]at h;split at h
 ·rename_i hle;cases ag with
  | true=>
   simp at h;cases h;exact⟨_,C3t hs hr _ _,fun w=>by simp[part,hag,A1d hi,hsz]⟩
  | false=>
   simp at h;have hlt:=(Array.getElem?_eq_some_iff.1 h).1;have hg:=Array.getElem?_eq_getElem (xs:=cs') (i:=off) (by omega)
   exact⟨_,.one (hr off v _ h hg),fun w=>by simp[part,hag,hg]⟩
 ·cases h
theorem B6z{t:TypeId}{off d:Nat}{xs ys xs' ys':Array Value}{f:Value->Value->Option Bool}{b:Bool}(h:C6c (tAgg P t) off xs ys f=some b)(hx:VR n J false (.agg xs) (.agg xs'))(hy:VR n J false (.agg ys) (.agg ys'))
  (hf:∀{x y x' y':Value} {b:Bool},f x y=some b->VR n J false x x'->VR n J false y y'->∀w,(Op.equalIn d t x' y').run P w=.ok b w):∃a c,(∀w,(part t xs' off).run P w=.ok a w)/\(∀w,(part t ys' off).run P w=.ok c w)/\∀w,(Op.equalIn d t a c).run P w=.ok b w:=by
 obtain⟨_,e1,hs1,hr1⟩:=hx.agg_inv;obtain⟨_,e2,hs2,hr2⟩:=hy.agg_inv;cases e1;cases e2;unfold C6c at h;split at h
 ·rename_i ag m ha;split at h
  ·rename_i a c h1 h2;obtain⟨a',v1,r1⟩:=B4c ha h1 hs1 hr1;obtain⟨c',v2,r2⟩:=B4c ha h2 hs2 hr2;exact⟨a',c',r1,r2,hf h v1 v2⟩
  ·cases h
 ·cases h
theorem E34{d:Nat}:∀{t:TypeId} {x y x' y':Value} {b:Bool},eqIn P d t x y=some b->VR n J false x x'->VR n J false y y'->∀w,(Op.equalIn d t x' y').run P w=.ok b w:=by
 induction d with
 | zero=>intro t x y x' y' b h;simp[eqIn]at h
 | succ d ih=>
  intro t x y x' y' b h hx hy w;simp only[eqIn]at h;split at h
  ·rename_i hu;cases h;cases hx.bool_inv;cases hy.bool_inv;simp[Op.equalIn,run_underlying hu]
  ·rename_i hu;split at h<;>cases h;rename_i hk;cases hk;cases hx.int_inv;cases hy.int_inv;simp[Op.equalIn,run_underlying hu]
  ·rename_i hu;cases h;cases hx.string_inv;cases hy.string_inv;simp[Op.equalIn,run_underlying hu]
  ·rename_i b' hu;cases h;cases hx.nilPtr_inv;cases b' with
   | none=>cases hy.nilPtr_inv;simp[Op.equalIn,run_underlying hu]
   | some a=>cases hy.ptr_inv.2.2;simp[Op.equalIn,run_underlying hu]
  ·rename_i hu;cases h;cases hy.nilPtr_inv;cases hx.ptr_inv.2.2;simp[Op.equalIn,run_underlying hu]
  ·rename_i fs xs ys hu;obtain⟨xs',rfl,_⟩:=hx.agg_inv;obtain⟨ys',rfl,_⟩:=hy.agg_inv;split at h
   ·cases h
   ·rename_i hsi;have hfs:P.fieldsOf t=fs:=by simp[Program.fieldsOf,hu]
    rw[run_equalIn_struct w d t xs' ys' (by rw[hfs];exact hu) (by simpa using hsi),hfs]
    generalize fs.toList=l at h;clear hfs hu;induction l generalizing b with
    | nil=>simp[allE]at h;subst h;simp[Op.eqFields]
    | cons f r ihr=>
     simp only[allE]at h;split at h
     ·rename_i b1 h1;split at h
      ·rename_i b2 h2;cases h;have hr:=ihr h2;simp only[Op.eqFields];split at h1
       ·rename_i hn;cases h1;simp[hn,hr]
       ·rename_i hn;obtain⟨a,c,r1,r2,r3⟩:=B6z h1 hx hy ih;simp only[ne_eq,hn,not_false_eq_true,if_true,Sem.run_bind,r1,r2,r3,Result.andThen_ok];cases b1
        ·simp
        ·simp[hr]
      ·cases h
     ·cases h
  ·rename_i m e xs ys hu;obtain⟨xs',rfl,_⟩:=hx.agg_inv;obtain⟨ys',rfl,_⟩:=hy.agg_inv;cases ha:tAgg P e with
   | none=>
    rw[ha]at h;cases h
   | some am=>
    obtain⟨ag,k⟩:=am;obtain⟨i,hi,hsz,hag⟩:=A57 ha;have hk:=A1d hi;simp only[Op.equalIn,Sem.run_bind,run_underlying hu,Result.andThen_ok,hk,hsz,Std.Legacy.Range.forIn_eq_forIn_range',Std.Legacy.Range.size,Nat.sub_zero,Nat.add_sub_cancel,Nat.div_one];rw[ha]at h;simp only[List.range_eq_range']at h;generalize List.range' 0 m=l at h ⊢;clear hu;induction l generalizing b with
    | nil=>simp[allE]at h;subst h;simp
    | cons j r ihr=>
     simp only[allE]at h;split at h
     ·rename_i b1 h1;split at h
      ·rename_i b2 h2;cases h;have hr:=ihr h2;rw[<-ha]at h1;obtain⟨a,c,r1,r2,r3⟩:=B6z h1 hx hy ih;simp only[List.forIn_cons,Sem.run_bind,r1,r2,r3,Result.andThen_ok];cases b1
       ·simp
       ·simpa using hr
      ·cases h
     ·cases h
  ·cases h
theorem C7d{op:BinOp}{t:TypeId}{x y v x' y':Value}(h:binV P op t x y=some v)(hx:VR n J false x x')(hy:VR n J false y y')(ox oy:Operand)(w:World) :
  (do eqGuard op t ox oy x' y';binOp op t x' y').run P w=.ok v w/\VR n J false v v:=by
 have fin:∀u,(∃k i,u=Value.int k i)\/(∃c,u=.bool c)\/(∃s,u=.string s)->VR n J false u u:=by
  rintro u (⟨k,i,rfl⟩|⟨c,rfl⟩|⟨s,rfl⟩)
  ·exact .one (.int k i)
  ·exact .one (.bool c)
  ·exact .one (.string s)
 unfold binV at h;split at h
 ·-- ints
  cases hx.int_inv;cases hy.int_inv;have h1:∀{k k':IntKind} {a b:Int} (r:Result Value),(binOp op t (.int k a) (.int k' b)).run P w=r->(do eqGuard op t ox oy (.int k a) (.int k' b);binOp op t (.int k a) (.int k' b)).run P w=r:=fun r hr=>by
   rw[eqGuard_at_int];simpa using hr
  split at h
  ·obtain⟨e1,u,rfl⟩:=B4i h t w;exact⟨h1 _ e1,fin _ (.inl ⟨_,_,rfl⟩)⟩
  ·obtain⟨e1,u,rfl⟩:=B4i h t w;exact⟨h1 _ e1,fin _ (.inl ⟨_,_,rfl⟩)⟩
  ·split at h
   ·rename_i hne1 hne2 hk;subst hk;obtain⟨e1,u,hv⟩:=D4d h (by rintro rfl;exact hne1 rfl) (by rintro rfl;exact hne2 rfl) t w
    refine⟨h1 _ e1,fin _ ?_⟩;rcases hv with rfl|⟨c,rfl⟩
    ·exact .inl ⟨_,_,rfl⟩
    ·exact .inr (.inl ⟨_,rfl⟩)
   ·cases h
 ·-- strings
  cases hx.string_inv;cases hy.string_inv;obtain⟨e1,hv⟩:=D9w h t w;refine⟨by rw[eqGuard_at_string];simpa using e1,fin _ ?_⟩
  rcases hv with⟨s,rfl⟩|⟨c,rfl⟩
  ·exact .inr (.inr ⟨_,rfl⟩)
  ·exact .inr (.inl ⟨_,rfl⟩)
 ·-- bools
  rename_i a b;cases hx.bool_inv;cases hy.bool_inv;split at h
  ·rename_i ht';rw[if_pos rfl]at h;obtain⟨e1,c,rfl⟩:=A5a (P:=P) (w:=w) (t:=t) (x:=.bool a) (y:=.bool b) h (B3x fun d=>by simp[Op.equalIn,run_underlying ht']) (by constructor<;>simp[binOp])
   exact⟨by rw[eqGuard_at_bool];simpa using e1,fin _ (.inr (.inl ⟨_,rfl⟩))⟩
  ·simp at h
 ·-- nil,pointer
  rename_i b;cases hx.nilPtr_inv;split at h
  ·rename_i ht';rw[if_pos rfl]at h;have hy':∃b',y'=.pointer b'/\b'.isNone=b.isNone:=by
    cases b with
    | none=>exact⟨none,hy.nilPtr_inv,rfl⟩
    | some a=>exact⟨_,hy.ptr_inv.2.2,rfl⟩
   obtain⟨b',rfl,hb⟩:=hy';obtain⟨e1,c,rfl⟩:=A5a (P:=P) (w:=w) (t:=t) (x:=.pointer none) (y:=.pointer b') h (B3x fun d=>by simp[Op.equalIn,run_underlying ht',hb]) (by constructor<;>simp[binOp])
   exact⟨by rw[eqGuard_at_pointer];simpa using e1,fin _ (.inr (.inl ⟨_,rfl⟩))⟩
  ·simp at h
 ·-- pointer,nil
  cases hy.nilPtr_inv;cases hx.ptr_inv.2.2;split at h
  ·rename_i ht';rw[if_pos rfl]at h;obtain⟨e1,c,rfl⟩:=A5a (P:=P) (w:=w) (t:=t) (x:=.pointer (some _)) (y:=.pointer none) h (B3x fun d=>by simp[Op.equalIn,run_underlying ht']) (by constructor<;>simp[binOp])
   exact⟨by rw[eqGuard_at_pointer];simpa using e1,fin _ (.inr (.inl ⟨_,rfl⟩))⟩
  ·simp at h
 ·-- nil,slice
  rename_i l c b l' c';obtain⟨rfl,rfl,rfl⟩:=hx.nilSlice_inv;split at h
  ·rename_i ht';rw[if_pos rfl]at h;have hy':∃b' l1 c1,y'=.slice b' l1 c1/\b'.isNone=b.isNone:=by
    cases b with
    | none=>exact⟨none,_,_,hy.nilSlice_inv.2.2,rfl⟩
    | some a=>obtain⟨a',c',e,_⟩:=hy.slice_inv;exact⟨_,_,_,e,rfl⟩
   obtain⟨b',l1,c1,rfl,hb⟩:=hy';obtain⟨e1,c,rfl⟩:=A5a (P:=P) (w:=w) (t:=t) (x:=.slice none 0 0) (y:=.slice b' l1 c1) h (B3x fun d=>by simp[Op.equalIn,run_underlying ht',hb]) (by constructor<;>simp[binOp])
   exact⟨by rw[eqGuard_at_slice];simpa using e1,fin _ (.inr (.inl ⟨_,rfl⟩))⟩
  ·simp at h
 ·-- slice,nil
  obtain⟨_,_,rfl⟩:=hy.nilSlice_inv;obtain⟨a',c',rfl,_⟩:=hx.slice_inv;split at h
  ·rename_i ht';rw[if_pos rfl]at h;obtain⟨e1,c,rfl⟩:=A5a (P:=P) (w:=w) (t:=t) (x:=.slice (some a') _ c') (y:=.slice none 0 0) h (B3x fun d=>by simp[Op.equalIn,run_underlying ht']) (by constructor<;>simp[binOp])
   exact⟨by rw[eqGuard_at_slice];simpa using e1,fin _ (.inr (.inl ⟨_,rfl⟩))⟩
  ·simp at h
 ·-- nil,map
  rename_i b;cases hx.nilMap_inv;split at h
  ·rename_i ht';rw[if_pos rfl]at h;have hy':∃b',y'=.map b'/\b'.isNone=b.isNone:=by
    cases b with
    | none=>exact⟨none,hy.nilMap_inv,rfl⟩
    | some a=>exact⟨_,hy.map_inv.2,rfl⟩
   obtain⟨b',rfl,hb⟩:=hy';obtain⟨e1,c,rfl⟩:=A5a (P:=P) (w:=w) (t:=t) (x:=.map none) (y:=.map b') h (B3x fun d=>by simp[Op.equalIn,run_underlying ht',hb]) (by constructor<;>simp[binOp])
   exact⟨by rw[eqGuard_at_map];simpa using e1,fin _ (.inr (.inl ⟨_,rfl⟩))⟩
  ·simp at h
 ·-- map,nil
  cases hy.nilMap_inv;cases hx.map_inv.2;split at h
  ·rename_i ht';rw[if_pos rfl]at h;obtain⟨e1,c,rfl⟩:=A5a (P:=P) (w:=w) (t:=t) (x:=.map (some _)) (y:=.map none) h (B3x fun d=>by simp[Op.equalIn,run_underlying ht']) (by constructor<;>simp[binOp])
   exact⟨by rw[eqGuard_at_map];simpa using e1,fin _ (.inr (.inl ⟨_,rfl⟩))⟩
  ·simp at h
 ·-- nil functions
  cases hx.nilFunc_inv;cases hy.nilFunc_inv;split at h
  ·rename_i ht';rw[if_pos rfl]at h;obtain⟨e1,c,rfl⟩:=A5a (P:=P) (w:=w) (t:=t) (x:=.nilFunc) (y:=.nilFunc) h (B3x fun d=>by simp[Op.equalIn,run_underlying ht']) (by constructor<;>simp[binOp])
   exact⟨by rw[eqGuard_at_nilFunc];simpa using e1,fin _ (.inr (.inl ⟨_,rfl⟩))⟩
  ·simp at h
 ·cases hx.nilFunc_inv;obtain⟨g,fs,cs,rfl,_⟩:=hy.func_inv';split at h
  ·rename_i ht';rw[if_pos rfl]at h;obtain⟨e1,c,rfl⟩:=A5a (P:=P) (w:=w) (t:=t) (x:=.nilFunc) (y:=.func _ _ _) h (B3x fun d=>by simp[Op.equalIn,run_underlying ht']) (by constructor<;>simp[binOp])
   exact⟨by rw[eqGuard_at_nilFunc];simpa using e1,fin _ (.inr (.inl ⟨_,rfl⟩))⟩
  ·simp at h
 ·cases hy.nilFunc_inv;obtain⟨g,fs,cs,rfl,_⟩:=hx.func_inv';split at h
  ·rename_i ht';rw[if_pos rfl]at h;obtain⟨e1,c,rfl⟩:=A5a (P:=P) (w:=w) (t:=t) (x:=.func _ _ _) (y:=.nilFunc) h (B3x fun d=>by simp[Op.equalIn,run_underlying ht']) (by constructor<;>simp[binOp])
   exact⟨by rw[eqGuard_at_func];simpa using e1,fin _ (.inr (.inl ⟨_,rfl⟩))⟩
  ·simp at h
 ·cases hx.nilIface_inv;obtain⟨u,rfl,_⟩:=hy.iface_inv;split at h
  ·rename_i ht';rw[if_pos rfl]at h;obtain⟨e1,c,rfl⟩:=A5a (P:=P) (w:=w) (t:=t) (x:=.nilIface) (y:=.iface _ _) h (B3x fun d=>by simp[Op.equalIn,run_underlying ht']) (by constructor<;>simp[binOp])
   exact⟨by rw[eqGuard_nil_iface];simpa using e1,fin _ (.inr (.inl ⟨_,rfl⟩))⟩
  ·simp at h
 ·cases hy.nilIface_inv;obtain⟨u,rfl,_⟩:=hx.iface_inv;split at h
  ·rename_i ht';rw[if_pos rfl]at h;obtain⟨e1,c,rfl⟩:=A5a (P:=P) (w:=w) (t:=t) (x:=.iface _ _) (y:=.nilIface) h (B3x fun d=>by simp[Op.equalIn,run_underlying ht']) (by constructor<;>simp[binOp])
   exact⟨by rw[eqGuard_at_iface];simpa using e1,fin _ (.inr (.inl ⟨_,rfl⟩))⟩
  ·simp at h
 ·-- aggregates
  obtain⟨xs',rfl,_⟩:=hx.agg_inv;obtain⟨ys',rfl,_⟩:=hy.agg_inv;split at h
  ·cases h
  ·rename_i hg;split at h
   ·rename_i b hb;have e:=E34 hb hx hy;have hg':P.eqGuardType P.depth t=false:=by simpa using hg
    cases op<;>simp[eqOp]at h<;>subst h
    ·exact⟨by simp[run_eqGuard_agg,hg',run_eql_struct,e],fin _ (.inr (.inl ⟨_,rfl⟩))⟩
    ·exact⟨by simp[run_eqGuard_agg,hg',run_neq_struct,e],fin _ (.inr (.inl ⟨_,rfl⟩))⟩
   ·cases h
 ·cases h
theorem D8l{t:TypeId}{f:Nat}{x x' v:Value}(h:B6l (A0q P t f) x=some v)(hx:VR n J false x x') :
  ∃v',VR n J false v v'/\∀w,(Instr.field t x' f).run P w=.ok v' w:=by
 cases hf:A0q P t f with
 | none=>rw[hf]at h;simp[B6l]at h
 | some d=>
  obtain⟨off,ag,m⟩:=d;rw[hf]at h;obtain⟨fs,fd,hu,hfd,hoff,hag,hm⟩:=B49 hf;cases x with
  | agg cs=>
   obtain⟨cs',rfl,hs,hr⟩:=hx.agg_inv;obtain⟨v',hv,hrun⟩:=B4c hag h hs hr;exact⟨v',hv,fun w=>by simp[Instr.field,run_underlying hu,hfd,asAgg,hoff,hrun]⟩
  | _=>simp[B6l]at h
theorem C28{t:TypeId}{ag:Bool}{m:Nat}(h:A46 P t=some (none,ag,m)):∃e,P.underlying t=some (.slice e)/\tAgg P e=some (ag,m):=by
 unfold A46 at h;split at h
 ·rename_i e hu;cases ha:tAgg P e with
  | none=>rw[ha]at h;cases h
  | some x=>rw[ha]at h;simp at h;exact⟨e,hu,by rw[ha];simp[<-h.1,<-h.2]⟩
 ·rename_i l e hu;cases ha:tAgg P e with
  | none=>rw[ha]at h;cases h
  | some x=>rw[ha]at h;simp at h
 ·cases h
theorem B5q{t:TypeId}{l:Nat}{ag:Bool}{m:Nat}(h:A46 P t=some (some l,ag,m)):∃e,P.underlying t=some (.array l e)/\tAgg P e=some (ag,m):=by
 unfold A46 at h;split at h
 ·rename_i e hu;cases ha:tAgg P e with
  | none=>rw[ha]at h;cases h
  | some x=>rw[ha]at h;simp at h
 ·rename_i l e hu;cases ha:tAgg P e with
  | none=>rw[ha]at h;cases h
  | some x=>rw[ha]at h;simp at h;exact⟨e,by rw[hu,h.1],by rw[ha];simp[<-h.2.1,<-h.2.2]⟩
 ·cases h
theorem C4p{t:TypeId}{x i x' i' v:Value}(h:A3g (A46 P t) x i=some v)(hx:VR n J false x x')(hi:VR n J false i i') :
  ∃v',VR n J false v v'/\∀w,(Instr.indexAt t x' i').run P w=.ok v' w:=by
 unfold A3g at h;split at h
 ·rename_i ag m a l c q j he;split at h
  ·rename_i hj;cases h;cases hi.int_inv;obtain⟨a',c',rfl,hb,hs,hl,hc,ha,hcap⟩:=hx.slice_inv;obtain⟨e,hu,hag⟩:=C28 he;obtain⟨ii,hii,hsz,_⟩:=A57 hag;have ha':a'=tr (J a.block) a:=ha.resolve_left (by omega)
   subst ha';refine⟨_,.one (.ptr (a:=⟨a.block,a.off+j.toNat*m,none⟩) hb rfl),fun w=>?_⟩;simp[Instr.indexAt,asIntOf,run_underlying hu,hj,A1d hii,hsz,B5n]
  ·cases h
 ·rename_i l ag m a q j he;split at h
  ·rename_i hj;cases h;cases hi.int_inv;obtain⟨hb,hs,rfl⟩:=hx.ptr_inv;obtain⟨e,hu,hag⟩:=B5q he;obtain⟨ii,hii,hsz,_⟩:=A57 hag;refine⟨_,.one (.ptr (a:=⟨a.block,a.off+j.toNat*m,none⟩) hb rfl),fun w=>?_⟩;simp[Instr.indexAt,asIntOf,run_underlying hu,Instr.sureAddr,hj,A1d hii,hsz,B5n]
  ·cases h
 ·cases h
theorem C78{t:TypeId}{x i x' i' v:Value}(h:B3l (B5a P t) (A46 P t) x i=some v)(hx:VR n J false x x')(hi:VR n J false i i') :
  ∃v',VR n J false v v'/\∀w,(Instr.index t x' i').run P w=.ok v' w:=by
 unfold B3l at h;split at h
 ·rename_i cs q j;split at h
  ·rename_i l ag m he;split at h
   ·rename_i hj;cases hi.int_inv;obtain⟨cs',rfl,hs,hr⟩:=hx.agg_inv;obtain⟨e,hu,hag⟩:=B5q he;obtain⟨ii,hii,hsz,_⟩:=A57 hag;obtain⟨v',hv,hrun⟩:=B4c hag h hs hr;refine⟨v',hv,fun w=>?_⟩;simp[Instr.index,asIntOf,run_underlying hu,hj,A1d hii,hsz,hrun]
   ·cases h
  ·cases h
 ·rename_i s q j;split at h
  ·rename_i hstr;split at h
   ·rename_i hj;cases hi.int_inv;cases hx.string_inv;have hu:P.underlying t=some .string:=by
     unfold B5a at hstr;split at hstr
     ·assumption
     ·cases hstr
    cases hb:s[j.toNat]? with
    | none=>rw[hb]at h;cases h
    | some b=>
     rw[hb]at h;simp at h;subst h;exact⟨_,.one (.int _ _),fun w=>by simp[Instr.index,asIntOf,run_underlying hu,hj,hb]⟩
   ·cases h
  ·cases h
 ·cases h
theorem E3p{x x' v:Value}{i:Nat}(h:extV x i=some v)(hx:VR n J false x x'):∃v',VR n J false v v'/\∀w,(Instr.extract x' i).run P w=.ok v' w:=by
 unfold extV at h;split at h
 ·rename_i vs;have hlt:=(Array.getElem?_eq_some_iff.1 h).1;obtain⟨vs',rfl,hs,hr⟩:=hx.tuple_inv (by omega)
  have hg:=Array.getElem?_eq_getElem (xs:=vs') (i:=i) (by omega)
  exact⟨_,hr i v _ h hg,fun w=>by simp[Instr.extract,hg]⟩
 ·cases h
theorem D51{t:TypeId}{k:IntKind}(h:tInt P t=some k):P.underlying t=some (.int k):=by
 unfold tInt at h;split at h
 ·cases h;assumption
 ·cases h
theorem D8c{src dst:TypeId}{x x' v:Value}(h:D6n (P.underlying src).isSome (tInt P dst) x=some v)(hx:VR n J false x x') :
  VR n J false v v/\∀w,(convert src dst x').run P w=.ok v w:=by
 unfold D6n at h;split at h
 ·rename_i k q m hk;split at h
  ·rename_i hs;cases h;cases hx.int_inv;obtain⟨d,hd⟩:=Option.isSome_iff_exists.1 hs;exact⟨.one (.int _ _),fun w=>by simp[convert,run_underlying hd,run_underlying (D51 hk),Conv.intToInt]⟩
  ·cases h
 ·cases h
end Go.Zz
namespace Go.Zz
open Go
variable {P : Program} {n : Nat} {J : Nat → Plc}
def VRa(n:Nat)(J:Nat->Plc)(cs cs':Array Value):Prop:=cs.size=cs'.size/\∀(i:Nat) (x y:Value),cs[i]?=some x->cs'[i]?=some y->VR n J true x y
theorem VRa.set{cs cs':Array Value}(h:VRa n J cs cs')(d:Nat){x y:Value}(hv:VR n J true x y):VRa n J (cs.setIfInBounds d x) (cs'.setIfInBounds d y):=by
 refine⟨by simp[h.1],fun i u v hu hv'=>?_⟩
 rw[Array.getElem?_setIfInBounds]at hu hv';by_cases hd:d=i
 ·subst hd;rw[if_pos rfl]at hu hv';split at hu
  ·split at hv'
   ·cases hu;cases hv';exact hv
   ·cases hv'
  ·cases hu
 ·rw[if_neg hd]at hu hv';exact h.2 i u v hu hv'
theorem VRa.writes(off:Nat):∀(vs vs':List (Value×Nat)) (cs cs':Array Value),vs.length=vs'.length->(∀(i:Nat) (x y:Value×Nat),vs[i]?=some x->vs'[i]?=some y->x.2=y.2/\VR n J true x.1 y.1)->
  VRa n J cs cs'->VRa n J (vs.foldl (fun cs (c,j)=>cs.setIfInBounds (off+j) c) cs) (vs'.foldl (fun cs (c,j)=>cs.setIfInBounds (off+j) c) cs')
 | [],[],_,_,_,_,h=>h
 | [],_::_,_,_,hl,_,_=>by simp at hl
 | _::_,[],_,_,hl,_,_=>by simp at hl
 | x::vs,y::vs',cs,cs',hl,hr,h=>by
  obtain⟨h1,h2⟩:=hr 0 x y rfl rfl;simp only[List.foldl_cons];refine VRa.writes off vs vs' _ _ (by simpa using hl) (fun i a b ha hb=>hr (i+1) a b (by simpa using ha) (by simpa using hb)) ?_
  rw[h1];exact h.set _ h2
theorem C10(off:Nat)(v:Array Value)(cs:Array Value) :
  v.zipIdx.foldl (fun cs (c,j)=>cs.setIfInBounds (off+j) c) cs=v.toList.zipIdx.foldl (fun cs (c,j)=>cs.setIfInBounds (off+j) c) cs:=by
 rw[<-Array.foldl_toList,Array.toList_zipIdx]
theorem C6g(place:Nat->Option (Nat×Nat)):∀(ps ps':List (Nat×Value)) (cs cs' r:Array Value),ps.length=ps'.length->
  (∀(i:Nat) (x y:Nat×Value),ps[i]?=some x->ps'[i]?=some y->x.1=y.1/\VR n J false x.2 y.2/\data x.2=true)->VRa n J cs cs'->Instr.fill place cs ps=some r->
  ∃r',Instr.fill place cs' ps'=some r'/\VRa n J r r'
 | [],[],cs,cs',r,_,_,h,hf=>by simp[Instr.fill]at hf;subst hf;exact⟨cs',rfl,h⟩
 | [],_::_,_,_,_,hl,_,_,_=>by simp at hl
 | _::_,[],_,_,_,hl,_,_,_=>by simp at hl
 |(i,v)::ps,(i',v')::ps',cs,cs',r,hl,hr,h,hf=>by
  obtain⟨h1,h2,h3⟩:=hr 0 (i,v) (i',v') rfl rfl;simp at h1 h2 h3;subst h1;obtain⟨hs,hc⟩:=h2.cells h3;simp only[Instr.fill]at hf ⊢;cases hp:place i with
  | none=>rw[hp]at hf;cases hf
  | some os=>
   obtain⟨off,size⟩:=os;rw[hp]at hf;simp only at hf ⊢;rw[<-hs,<-h.1];split at hf
   ·cases hf
   ·rename_i hcond;rw[if_neg hcond];rw[C10]at hf ⊢;refine C6g place ps ps' _ _ r (by simpa using hl) (fun i a b ha hb=>hr (i+1) a b (by simpa using ha) (by simpa using hb)) ?_ hf
    refine VRa.writes off _ _ _ _ (by simp[hs]) (fun j a b ha hb=>?_) h
    obtain⟨a1,a2⟩:=a;obtain⟨b1,b2⟩:=b;rw[List.getElem?_zipIdx]at ha hb;cases hva:v.cells.toList[j]? with
    | none=>rw[hva]at ha;simp at ha
    | some u=>
     cases hvb:v'.cells.toList[j]? with
     | none=>rw[hvb]at hb;simp at hb
     | some u'=>
      rw[hva]at ha;rw[hvb]at hb;simp at ha hb;refine⟨by rw[<-ha.2,<-hb.2],?_⟩
      rw[<-ha.1,<-hb.1];exact hc j u u' (by simpa using hva) (by simpa using hvb)
theorem VRa.plain{cs:Array Value}(h:cs.all Zz.plain=true):VRa n J cs cs:=
 ⟨rfl,fun i x y hx hy=>by rw[hx]at hy;cases hy;exact .plain (Array.all_eq_true'.1 h x (Array.mem_of_getElem? hx))⟩
theorem B29{t:TypeId}{z:List Value}(h:A2r P t=some z):∃i v,P.info? t=some i/\i.zero=some v/\data v=true/\v.cells.all Zz.plain=true/\v.cells.toList=z:=by
 unfold A2r at h;split at h
 ·rename_i v hv;split at h
  ·rename_i hc;simp only[Bool.and_eq_true]at hc;cases h;cases hi:P.info? t with
   | none=>rw[hi]at hv;cases hv
   | some i=>rw[hi]at hv;exact⟨i,v,rfl,hv,hc.1,hc.2,rfl⟩
  ·cases h
 ·cases h
theorem A1a{t:TypeId}{i:TypeInfo}{v:Value}(hi:P.info? t=some i)(hz:i.zero=some v)(w:World):(zeroValue t).run P w=.ok v w:=by
 simp[zeroValue,typeInfo,hi,hz]
theorem A7w{t:TypeId}{m:Nat}(h:A08 P t=some m):∃i,P.info? t=some i/\i.size=m:=by
 unfold A08 at h;cases hi:P.info? t with
 | none=>rw[hi]at h;cases h
 | some i=>rw[hi]at h;cases h;exact⟨i,rfl,rfl⟩
theorem B46{place:Nat->Option (Nat×Nat)}{z:List Value}{zz:Array Value}{l:List Value}{ps ps':Array (Nat×Value)}(h:A41 place z ps=some l)(hs:ps.size=ps'.size)
  (hr:∀(i:Nat) (x y:Nat×Value),ps[i]?=some x->ps'[i]?=some y->x.1=y.1/\VR n J false x.2 y.2) (hz:VRa n J z.toArray zz) :
  ∃r',Instr.fill place zz ps'.toList=some r'/\VRa n J l.toArray r':=by
 unfold A41 at h;split at h
 ·rename_i hd;cases hf:Instr.fill place z.toArray ps.toList with
  | none=>rw[hf]at h;cases h
  | some r=>
   rw[hf]at h;cases h;obtain⟨r',h1,h2⟩:=C6g (n:=n) (J:=J) place ps.toList ps'.toList z.toArray zz r (by simpa using hs)
    (fun i x y hx hy=>by
     have hx':ps[i]?=some x:=by simpa using hx
     obtain⟨e1,e2⟩:=hr i x y hx' (by simpa using hy)
     exact⟨e1,e2,Array.all_eq_true'.1 hd x (Array.mem_of_getElem? hx')⟩) hz hf
   exact⟨r',h1,by simpa using h2⟩
 ·cases h
theorem C2r{parts:Array (Nat×Operand)}{ρ ρ':Operand->Value}(hρ:∀x,VR n J false (ρ x) (ρ' x))(i:Nat)(x y:Nat×Value)
  (hx:(parts.map fun p=>(p.1,ρ p.2))[i]?=some x) (hy:(parts.map fun p=>(p.1,ρ' p.2))[i]?=some y):x.1=y.1/\VR n J false x.2 y.2:=by
 rw[Array.getElem?_map]at hx hy;cases hp:parts[i]? with
 | none=>rw[hp]at hx;cases hx
 | some p=>rw[hp]at hx hy;cases hx;cases hy;exact⟨rfl,hρ _⟩
theorem D10{t:TypeId}{parts parts':Array (Nat×Value)}{v:Value}(h:A0r P t parts=some v)(hs:parts.size=parts'.size)
  (hr:∀(i:Nat) (x y:Nat×Value),parts[i]?=some x->parts'[i]?=some y->x.1=y.1/\VR n J false x.2 y.2) :
  ∃v',VR n J false v v'/\∀w,(Instr.build t parts').run P w=.ok v' w:=by
 unfold A0r at h;split at h
 ·rename_i z hz;obtain⟨i,zv,hi,hzv,hd,hp,hzl⟩:=B29 hz;have hza:VRa n J z.toArray zv.cells:=by rw[<-hzl];simpa using VRa.plain hp
  split at h
  ·rename_i fs hu;split at h
   ·rename_i places hpl;cases hf:A41 (fun i=>places[i]?) z parts with
    | none=>rw[hf]at h;cases h
    | some l=>
     rw[hf]at h;cases h;obtain⟨r',h1,h2⟩:=B46 hf hs hr hza;refine⟨.agg r',.agg h2.1 h2.2,fun w=>?_⟩;simp[Instr.build,run_underlying hu,A1a hi hzv,Array.mapM_eq_mapM_toList,run_places w _ _ hpl];rw[h1];rfl
   ·cases h
  ·rename_i l e hu;split at h
   ·rename_i m hm;obtain⟨ii,hii,hsz⟩:=A7w hm;cases hf:A41 (fun i=>some (i*m,m)) z parts with
    | none=>rw[hf]at h;cases h
    | some l=>
     rw[hf]at h;cases h;obtain⟨r',h1,h2⟩:=B46 hf hs hr hza;refine⟨.agg r',.agg h2.1 h2.2,fun w=>?_⟩;simp[Instr.build,run_underlying hu,A1a hi hzv,A1d hii,hsz,h1]
   ·cases h
  ·cases h
 ·cases h
theorem C7o(f:Value->Value->Option Value)(g:Value->Value->Sem Value)
  (hfg:∀a b a' v,f a b=some v->VR n J false a a'->∀b',VR n J false b b'->VR n J false v v/\∀w,(g a' b').run P w=.ok v w) :
  ∀(l l':List Value) (a a' v:Value),l.length=l'.length->(∀(i:Nat) (x y:Value),l[i]?=some x->l'[i]?=some y->VR n J false x y)->VR n J false a a'->
   l.foldl (fun a y=>a.bind fun a=>f a y) (some a)=some v->∃v',VR n J false v v'/\∀w,(l'.foldlM g a').run P w=.ok v' w
 | [],[],a,a',v,_,_,ha,h=>by simp at h;subst h;exact⟨a',ha,fun w=>by simp⟩
 | [],_::_,_,_,_,hl,_,_,_=>by simp at hl
 | _::_,[],_,_,_,hl,_,_,_=>by simp at hl
 | x::l,x'::l',a,a',v,hl,hr,ha,h=>by
  simp only[List.foldl_cons,Option.bind_some]at h;cases hf:f a x with
  | none=>
   rw[hf]at h;exfalso;have:∀l:List Value,l.foldl (fun a y=>a.bind fun a=>f a y) none=none:=by
    intro l;induction l with
    | nil=>rfl
    | cons y l ih=>simpa using ih
   rw[this]at h;cases h
  | some u=>
   rw[hf]at h;obtain⟨h1,h2⟩:=hfg a x a' u hf ha x' (hr 0 x x' rfl rfl);obtain⟨v',hv,hrun⟩:=C7o f g hfg l l' u u v (by simpa using hl) (fun i a b ha hb=>hr (i+1) a b (by simpa using ha) (by simpa using hb)) h1 h
   exact⟨v',hv,fun w=>by simp[List.foldlM_cons,h2,hrun]⟩
theorem B4a{args:List Operand}{ρ ρ':Operand->Value}(hρ:∀x,VR n J false (ρ x) (ρ' x))(i:Nat)(x y:Value)
  (hx:(args.map ρ)[i]?=some x) (hy:(args.map ρ')[i]?=some y):VR n J false x y:=by
 rw[List.getElem?_map]at hx hy;cases hp:args[i]? with
 | none=>rw[hp]at hx;cases hx
 | some p=>rw[hp]at hx hy;cases hx;cases hy;exact hρ _
theorem C1v(f:Value->Value->Option Value)(g:Value->Value->Sem Value)
  (hfg:∀a b a' v,f a b=some v->VR n J false a a'->∀b',VR n J false b b'->VR n J false v v/\∀w,(g a' b').run P w=.ok v w)
  {args:List Operand} {ρ ρ':Operand->Value} (hρ:∀x,VR n J false (ρ x) (ρ' x)) {v:Value} (h:B3t f (args.map ρ)=some v) :
  ∃x r,args=x::r/\∃v',VR n J false v v'/\∀w,((r.map ρ').foldlM g (ρ' x)).run P w=.ok v' w:=by
 cases args with
 | nil=>simp[B3t]at h
 | cons x r=>
  refine⟨x,r,rfl,?_⟩;simp only[List.map_cons,B3t]at h;exact C7o f g hfg _ _ _ _ v (by simp) (fun i a b ha hb=>B4a hρ i a b ha hb) (hρ x) h
theorem E1u(a b a' v:Value)(h:min2 a b=some v)(ha:VR n J false a a')(b':Value)(hb:VR n J false b b'):VR n J false v v/\∀w,(Builtin.min2 a' b').run P w=.ok v w:=by
 unfold min2 at h;split at h
 ·cases h;cases ha.int_inv;cases hb.int_inv;exact⟨.one (.int _ _),fun w=>by simp[Builtin.min2]⟩
 ·cases h
theorem E36(a b a' v:Value)(h:max2 a b=some v)(ha:VR n J false a a')(b':Value)(hb:VR n J false b b'):VR n J false v v/\∀w,(Builtin.max2 a' b').run P w=.ok v w:=by
 unfold max2 at h;split at h
 ·cases h;cases ha.int_inv;cases hb.int_inv;exact⟨.one (.int _ _),fun w=>by simp[Builtin.max2]⟩
 ·cases h
theorem VR.toOne{x y:Value}(h:VR n J false x y)(h1:(x.oneCell'&&data x)=true):VR n J true x y:=by
 generalize ho:false=o at h;cases h with
 | skip=>simp[data]at h1
 | one h=>exact h
 | dc=>simp[undef,Value.oneCell']at h1
 | agg _ _=>simp[Value.oneCell']at h1
 | tuple _ _=>simp[Value.oneCell']at h1
 | _=>cases ho
theorem C0d{t:TypeId}(h:A48 P t=true)(x:Value)(w:World):(Instr.makeInterface t x).run P w=.ok (.iface t x) w:=by
 unfold A48 at h;split at h
 ·cases h
 ·rename_i d hne hd;simp only[Instr.makeInterface,Sem.run_bind,run_underlying hd,Result.andThen_ok];cases d<;>first|rfl|(exact absurd rfl (by rename_i ms;exact fun _=>hne ms hd))
 ·cases h
theorem C7i{o:Oper}{ρ ρ':Operand->Value}{v:Value}(hc:cls o.op=.p)(hρ:∀x,VR n J false (ρ x) (ρ' x))(h:D5h P o.op ρ=some v) :
  ∃v',VR n J false v v'/\∀w,(execOp ρ' o).run P w=.ok (.value v') w:=by
 obtain⟨dst,op,type,pos,after,guard⟩:=o;have lift:∀{x:Sem Value} {v':Value},(∀w,x.run P w=.ok v' w)->∀w,(do pure (Next.value (<-x)):Sem Next).run P w=.ok (.value v') w:=fun hx w=>by simp[hx]
 cases op<;>simp only[cls]at hc<;>simp only[D5h]at h<;>simp only[execOp]
 case move x=>cases h;exact⟨_,hρ x,fun w=>rfl⟩
 case assign x=>cases h;exact⟨_,hρ x,fun w=>rfl⟩
 case pick c a b=>exact D2q h (hρ c) (hρ a) (hρ b)
 case build t parts=>
  obtain⟨v',h1,h2⟩:=D10 (n:=n) (J:=J) (parts':=parts.map fun(i,x)=>(i,ρ' x)) (by rw[D5a]at h;exact h) (by simp) (fun i x y hx hy=>C2r hρ i x y hx hy)
  exact⟨v',h1,lift h2⟩
 case nilCheck x=>
  obtain⟨h1,h2⟩:=E2q h (hρ x);refine⟨_,h1,fun w=>?_⟩;rcases h2 with⟨a,e⟩|⟨f,a,b,e⟩|⟨t,u,e⟩<;>rw[e]<;>rfl
 case binOp op t x y yt=>
  have hrel:VR n J false v v:=(C7d h (hρ x) (hρ y) x y default).2;exact⟨v,hrel,lift fun w=>(C7d h (hρ x) (hρ y) x y w).1⟩
 case unOp op t x=>obtain⟨h1,h2⟩:=F5i h (hρ x);exact⟨v,h1,lift h2⟩
 case makeInterface t x=>
  unfold mkIf at h;split at h
  ·rename_i hcd;simp only[Bool.and_eq_true]at hcd;cases h;refine⟨_,.one (.iface (hρ x) (fun vs e=>?_) (fun r e=>?_)),lift (C0d hcd.1 _)⟩
   ·rw[e]at hcd;simp[data]at hcd
   ·rw[e]at hcd;simp[data]at hcd
  ·cases h
 case makeFunc fn first captured=>
  split at h
  ·rename_i f;rw[D2a,D2a]at h;unfold mkFn at h;split at h
   ·rename_i hf;cases h;simp only[Bool.and_eq_true]at hf;refine⟨.func (.func f) (first.map ρ') (captured.map ρ'),.one (.func (by simp) (fun i x y hx hy=>?_) (by simp) (fun i x y hx hy=>?_)),lift (fun w=>by simp[Instr.makeFunc])⟩
    ·rw[Array.getElem?_map]at hx hy;cases hp:first[i]? with
     | none=>rw[hp]at hx;cases hx
     | some p=>rw[hp]at hx hy;cases hx;cases hy;exact hρ p
    have h1:=Array.all_eq_true'.1 hf.2 x (Array.mem_of_getElem? hx);rw[Array.getElem?_map]at hx hy;cases hp:captured[i]? with
    | none=>rw[hp]at hx;cases hx
    | some p=>rw[hp]at hx hy;cases hx;cases hy;exact(hρ p).toOne h1
   ·cases h
  ·cases h
 case fieldAddr t x f=>obtain⟨v',h1,h2⟩:=D0z h (hρ x);exact⟨v',h1,lift h2⟩
 case field t x f=>obtain⟨v',h1,h2⟩:=D8l h (hρ x);exact⟨v',h1,lift h2⟩
 case indexAddr t x i=>obtain⟨v',h1,h2⟩:=C4p h (hρ x) (hρ i);exact⟨v',h1,lift h2⟩
 case index t x i=>obtain⟨v',h1,h2⟩:=C78 h (hρ x) (hρ i);exact⟨v',h1,lift h2⟩
 case extract x i=>obtain⟨v',h1,h2⟩:=E3p h (hρ x);exact⟨v',h1,lift h2⟩
 case call c=>
  split at h
  ·rename_i hce;obtain⟨x,r,ha,v',h1,h2⟩:=C1v (P:=P) min2 Builtin.min2 E1u hρ h;refine⟨v',h1,fun w=>?_⟩;simp[resolve,hce,invoke,builtin,Builtin.min_,ha,h2]
  ·rename_i hce;obtain⟨x,r,ha,v',h1,h2⟩:=C1v (P:=P) max2 Builtin.max2 E36 hρ h;refine⟨v',h1,fun w=>?_⟩;simp[resolve,hce,invoke,builtin,Builtin.max_,ha,h2]
  ·cases h
 all_goals (cases hc)
end Go.Zz
namespace Go.Zz
open Go
variable {P : Program} {G : Nat} {s : St} {J : Nat → Plc} {w : World}
def A55(w w2:World):Prop:=∀cb,cb<w.heap.size->w2.heap[cb]?=w.heap[cb]?
theorem A55.refl(w:World):A55 w w:=fun _ _=>rfl
theorem A55.at{w w2:World}(h:A55 w w2){cb:Nat}{x:Obj}(hx:w.heap[cb]?=some x):w2.heap[cb]?=some x:=
 (h cb (Array.getElem?_eq_some_iff.1 hx).1).trans hx
theorem Sim.holds{w2:World}(h:Sim G s J w)(h2:A55 w w2):Sim G s J w2:=
 ⟨h.live,fun b x hx=>(h.obj b x hx).mono (Nat.le_refl _) (fun _ _=>rfl) (h2 _ (h.obj b x hx).lt),h.apart,h.glob⟩
theorem Sim.cell(h:Sim G s J w){a:Addr}{vs:List Value}{tail:Bool}(hb:s.heap a.block=some (.cells vs tail)){x:Value}(hx:vs[a.off]?=some x) :
  ∃y,VR s.next J true x y/\∀w2,A55 w w2->w2.cell? (tr (J a.block) a)=some y:=by
 obtain⟨h1,h2,c,e,fr,hc,hsz,hv,ho,hf⟩:=h.obj _ _ hb;obtain⟨y,hy,hr⟩:=hv _ _ hx;exact⟨y,hr,fun w2 hw=>by simp[World.cell?,tr,hw.at hc,hy]⟩
theorem Sim.cells(h:Sim G s J w){a:Addr}{vs:List Value}{tail:Bool}(hb:s.heap a.block=some (.cells vs tail)){m:Nat}(hm:a.off+m<=vs.length) :
  ∃ys:List Value,ys.length=m/\(∀(i:Nat) (x y:Value),((vs.drop a.off).take m)[i]?=some x->ys[i]?=some y->VR s.next J true x y)/\
   ∀w2,A55 w w2->∀(j:Nat) (u:Value),ys[j]?=some u->w2.cell? ((tr (J a.block) a).add j)=some u:=by
 obtain⟨h1,h2,c,e,fr,hc,hsz,hv,ho,hf⟩:=h.obj _ _ hb;have hget:∀j,j<m->∃y,c[(J a.block).k+a.off+j]?=some y/\VR s.next J true (vs.getD (a.off+j) undef) y:=fun j hj=>by
  obtain⟨y,hy,hr⟩:=hv (a.off+j) _ (List.getElem?_eq_getElem (by omega))
  refine⟨y,by rw[Nat.add_assoc];exact hy,?_⟩
  rw[List.getD_eq_getElem?_getD,List.getElem?_eq_getElem (by omega)]
  exact hr
 refine⟨(List.range m).map fun j=>c.getD ((J a.block).k+a.off+j) undef,by simp,fun i x y hx hy=>?_,fun w2 hw j u hu=>?_⟩
 ·have hi:i<m:=by have:=(List.getElem?_eq_some_iff.1 hy).1;simpa using this
  obtain⟨z,hz,hr⟩:=hget i hi;rw[List.getElem?_take_of_lt hi,List.getElem?_drop]at hx;rw[List.getD_eq_getElem?_getD,hx]at hr;simp[hi]at hy;rw[<-hy,hz];exact hr
 ·have hj:j<m:=by have:=(List.getElem?_eq_some_iff.1 hu).1;simpa using this
  obtain⟨z,hz,_⟩:=hget j hj;simp[hj]at hu;rw[<-hu,hz,B5n];simp[World.cell?,tr,hw.at hc,<-Nat.add_assoc,hz]
theorem A58{a:Addr}{ys:List Value}(h:∀(j:Nat) (u:Value),ys[j]?=some u->w.cell? (a.add j)=some u):(loadCells a ys.length).run P w=.ok ys.toArray w:=
 run_loadCells_list w a ys h
theorem C2i(hS:Sim G s J w){t:TypeId}{p p' v:Value}(h:A04 (tAgg P t) p s=some v)(hp:VR s.next J false p p') :
  ∃v',VR s.next J false v v'/\∀w2,A55 w w2->(Instr.loadAt t p').run P w2=.ok v' w2:=by
 unfold A04 at h;split at h
 ·rename_i m a ha;obtain⟨i,hi,hsz,hag⟩:=A57 ha;obtain⟨hb,hs,rfl⟩:=hp.ptr_inv;split at h
  ·rename_i vs tail hrow;split at h
   ·rename_i hle;cases h;obtain⟨ys,hl,hr,hc⟩:=hS.cells hrow hle;refine⟨.agg ys.toArray,.agg (by simp[hl];omega) (fun i x y hx hy=>hr i x y (by simpa using hx) (by simpa using hy)),fun w2 hw=>?_⟩
    have:=A58 (P:=P) (hc w2 hw);rw[hl]at this;simp[Instr.loadAt,Instr.sureAddr,loadVar,hag,A1d hi,hsz,this]
   ·cases h
  ·cases h
 ·rename_i m a ha;obtain⟨i,hi,hsz,hag⟩:=A57 ha;obtain⟨hb,hs,rfl⟩:=hp.ptr_inv;split at h
  ·rename_i vs tail hrow;obtain⟨y,hr,hc⟩:=hS.cell hrow h;refine⟨y,.one hr,fun w2 hw=>?_⟩;simp[Instr.loadAt,Instr.sureAddr,loadVar,hag,hc w2 hw]
  ·cases h
 ·cases h
theorem C4u(hS:Sim G s J w){x x':Value}{es:List (Value×Value)}(h:B5v x s=some es)(hx:VR s.next J false x x') :
  ∃es':Array MapEntry,es.length=es'.size/\(∀(i:Nat) (x:Value×Value) (y:MapEntry),es[i]?=some x->es'[i]?=some y->VR s.next J false x.1 y.key/\VR s.next J false x.2 y.val)/\
   ((x'=.map none/\es'=#[])\/∃r clock,x'=.map (some r)/\∀w2,A55 w w2->w2.heap[r]?=some (.map es' clock)):=by
 unfold B5v at h;split at h
 ·cases h;cases hx.nilMap_inv;exact⟨#[],rfl,fun i x y hx=>by simp at hx,.inl ⟨rfl,rfl⟩⟩
 ·rename_i r;obtain⟨hr,rfl⟩:=hx.map_inv;split at h
  ·rename_i es0 _ clock hb;cases h;obtain⟨es',hc,hl,_,hv,_⟩:=hS.obj _ _ hb;exact⟨es',hl,hv,.inr ⟨_,clock,rfl,fun w2 hw=>hw.at hc⟩⟩
  ·cases h
 ·cases h
theorem B5h{n:Nat}{J:Nat->Plc}{d:TypeDesc}{x y x' y':Value}{b:Bool}(h:Instr.sameNow d x y=some b)(hx:VR n J false x x')(hy:VR n J false y y') :
  Instr.sameNow d x' y'=some b:=by
 unfold Instr.sameNow at h;split at h
 ·cases hx.int_inv;cases hy.int_inv;simpa[Instr.sameNow]using h
 ·cases hx.string_inv;cases hy.string_inv;simpa[Instr.sameNow]using h
 ·cases hx.bool_inv;cases hy.bool_inv;simpa[Instr.sameNow]using h
 ·cases h
theorem A6x{n:Nat}{J:Nat->Plc}{d:TypeDesc}{k k':Value}(hk:VR n J false k k'):∀(es:List (Value×Value)) (es':List MapEntry) (i:Nat) (r:Option (Nat×Value)),
  es.length=es'.length->(∀(i:Nat) (x:Value×Value) (y:MapEntry),es[i]?=some x->es'[i]?=some y->VR n J false x.1 y.key/\VR n J false x.2 y.val)->
  C0o d k es i=some r->∃r',Instr.findNow d k' es' i=some r'/\(r=none->r'=none)/\
   (∀j v,r=some (j,v)->∃v',r'=some (j,v')/\VR n J false v v'/\i<=j/\j<i+es.length/\∃e,es[j-i]?=some e/\Instr.sameNow d k e.1=some true)
 | [],[],i,r,_,_,h=>by simp[C0o]at h;subst h;exact⟨none,rfl,fun _=>rfl,fun j v e=>by cases e⟩
 | [],_::_,_,_,hl,_,_=>by simp at hl
 | _::_,[],_,_,hl,_,_=>by simp at hl
 | e::es,e'::es',i,r,hl,hr,h=>by
  obtain⟨h1,h2⟩:=hr 0 e e' rfl rfl;simp only[C0o]at h;simp only[Instr.findNow];split at h
  ·rename_i hs;cases h;rw[B5h hs hk h1];refine⟨_,rfl,(fun e=>nomatch e),fun j v hj=>?_⟩;cases hj;exact⟨_,rfl,h2,Nat.le_refl _,by simp,e,by simp,hs⟩
  ·rename_i hs;rw[B5h hs hk h1];obtain⟨r',h3,h4,h5⟩:=A6x hk es es' (i+1) r (by simpa using hl) (fun i a b ha hb=>hr (i+1) a b (by simpa using ha) (by simpa using hb)) h
   refine⟨r',h3,h4,fun j v hj=>?_⟩;obtain⟨v',e1,e2,e3,e4,x,e5,e6⟩:=h5 j v hj;refine⟨v',e1,e2,by omega,by simp;omega,x,?_,e6⟩
   rw[show j-i=(j-(i+1))+1 by omega]
   simpa using e5
  ·cases h
theorem B15{t:TypeId}{d:TypeDesc}{z:Value}(h:tMap P t=some (d,z)):∃kt et i,P.underlying t=some (.map kt et)/\P.underlying kt=some d/\P.info? et=some i/\i.zero=some z/\
  (∀n J,VR n J false z z)/\((∃q,d=.int q)\/d=.string\/d=.bool):=by
 unfold tMap at h;split at h
 ·rename_i kt et hu;have hz:∀{z},D3p P et=some z->∃i,P.info? et=some i/\i.zero=some z/\(∀n J,VR n J false z z):=by
   intro z hz;unfold D3p at hz;split at hz
   ·rename_i v hv;split at hz
    ·rename_i hc;cases hz;simp only[Bool.and_eq_true]at hc;cases hi:P.info? et with
     | none=>rw[hi]at hv;cases hv
     | some i=>
      rw[hi]at hv;refine⟨i,rfl,hv,fun n J=>?_⟩;cases z with
      | agg cs=>exact .agg rfl (VRa.plain (n:=n) (J:=J) (cs:=cs) hc.2).2
      | tuple cs=>simp[data]at hc
      | _=>exact .one (.plain (by simpa[Value.cells]using hc.2))
    ·cases hz
   ·cases hz
  split at h
  ·rename_i q z' hk hz';cases h;obtain⟨i,h1,h2,h3⟩:=hz hz';exact⟨kt,et,i,hu,hk,h1,h2,h3,.inl ⟨_,rfl⟩⟩
  ·rename_i z' hk hz';cases h;obtain⟨i,h1,h2,h3⟩:=hz hz';exact⟨kt,et,i,hu,hk,h1,h2,h3,.inr (.inl rfl)⟩
  ·rename_i z' hk hz';cases h;obtain⟨i,h1,h2,h3⟩:=hz hz';exact⟨kt,et,i,hu,hk,h1,h2,h3,.inr (.inr rfl)⟩
  ·cases h
 ·cases h
theorem C2t{kt:TypeId}{d:TypeDesc}(hd:P.underlying kt=some d)(hp:(∃q,d=.int q)\/d=.string\/d=.bool)(e:Bool)(m:Nat)(k:Value)(w:World) :
  (Instr.checkKey e (m+1) kt k).run P w=.ok () w:=by
 rcases hp with⟨q,rfl⟩|rfl|rfl<;>simp[Instr.checkKey,run_underlying hd]
theorem A3d{kt:TypeId}{d:TypeDesc}(hd:P.underlying kt=some d)(hp:(∃q,d=.int q)\/d=.string\/d=.bool)(e:Bool)(k:Value)(w:World) :
  (Instr.checkKey e 10000 kt k).run P w=.ok () w:=C2t hd hp e 9999 k w
theorem A5w{r:Nat}{es:Array MapEntry}{c:Nat}(h:w.heap[r]?=some (.map es c)):(getObj r).run P w=.ok (.map es c) w:=by
 simp[getObj,Sem.run,h]
theorem D41(hS:Sim G s J w){t:TypeId}{x x' k k' v:Value}{ok:Bool}(h:B0y (tMap P t) x k ok s=some v)(hx:VR s.next J false x x')(hk:VR s.next J false k k') :
  ∃v',VR s.next J false v v'/\∀w2,A55 w w2->(Instr.lookup t x' k' ok).run P w2=.ok v' w2:=by
 unfold B0y at h;split at h
 ·rename_i d z hm;obtain⟨kt,et,i,hu,hkt,hi,hz,hzz,hp⟩:=B15 hm;split at h
  ·rename_i es hes;obtain⟨es',hl,hr,hx'⟩:=C4u hS hes hx;have both:∀(u u':Value) (b:Bool),VR s.next J false u u'->VR s.next J false (if ok then .tuple #[u,.bool b]else u) (if ok then .tuple #[u',.bool b]else u'):=by
    intro u u' b hu;cases ok with
    | false=>exact hu
    | true=>
     refine .tuple rfl (fun i x y hx hy=>?_)
     match i with
     | 0=>simp at hx hy;rw[<-hx,<-hy];exact hu
     | 1=>simp at hx hy;rw[<-hx,<-hy];exact .one (.bool b)
     | j+2=>simp at hx
   have hrun:∀(r':Option (Nat×Value)) (v':Value),Instr.findNow d k' es'.toList 0=some r'->(v'=match r' with|some (_,u)=>(if ok then .tuple #[u,.bool true]else u)|none=>(if ok then .tuple #[z,.bool false]else z))->
     ∀w2,A55 w w2->(Instr.lookup t x' k' ok).run P w2=.ok v' w2:=by
    intro r' v' hf hv' w2 hw;subst hv';have hfk:(Instr.findKey kt k' es'.toList).run P w2=.ok r' w2:=by simp[Instr.findKey,run_underlying hkt,hf]
    rcases hx' with⟨rfl,rfl⟩|⟨r,clock,rfl,hc⟩
    ·simp only[Instr.lookup,Sem.run_bind,run_underlying hu,Result.andThen_ok,Sem.run_pure,A3d hkt hp,hfk];cases r' with
     | none=>simp[A1a hi hz]
     | some q=>obtain⟨j,u⟩:=q;simp
    ·simp only[Instr.lookup,Sem.run_bind,run_underlying hu,Result.andThen_ok,Sem.run_pure,A5w (hc w2 hw),A3d hkt hp,hfk];cases r' with
     | none=>simp[A1a hi hz]
     | some q=>obtain⟨j,u⟩:=q;simp
   split at h
   ·rename_i j u hf;cases h;obtain⟨r',h1,h2,h3⟩:=A6x hk es es'.toList 0 _ (by simpa using hl) (fun i x y hx hy=>hr i x y hx (by simpa using hy)) hf
    obtain⟨u',rfl,hvu,_⟩:=h3 _ _ rfl;exact⟨_,both u u' true hvu,hrun _ _ h1 rfl⟩
   ·rename_i hf;cases h;obtain⟨r',h1,h2,h3⟩:=A6x hk es es'.toList 0 _ (by simpa using hl) (fun i x y hx hy=>hr i x y hx (by simpa using hy)) hf
    cases h2 rfl;exact⟨_,both z z false (hzz _ _),hrun _ _ h1 rfl⟩
   ·cases h
  ·cases h
 ·cases h
theorem E1m{t:TypeId}{x x' v:Value}{n:Nat}(h:lenV P t x=some v)(hx:VR n J false x x')(ty:TypeId):VR n J false v v/\∀w,(Builtin.len_ #[t] ty #[x']).run P w=.ok v w:=by
 unfold lenV at h;split at h
 ·rename_i b hu;cases h;cases hx.string_inv;exact⟨.one (.int _ _),fun w=>by simp[Builtin.len_,run_underlying hu,goInt]⟩
 ·rename_i m e hu;cases h;exact⟨.one (.int _ _),fun w=>by simp[Builtin.len_,run_underlying hu,goInt]⟩
 ·rename_i e a m c hu;cases h;refine⟨.one (.int _ _),fun w=>?_⟩;cases a with
  | none=>obtain⟨rfl,_,rfl⟩:=hx.nilSlice_inv;simp[Builtin.len_,run_underlying hu,goInt]
  | some a=>obtain⟨a',c',rfl,_⟩:=hx.slice_inv;simp[Builtin.len_,run_underlying hu,goInt]
 ·rename_i hu;cases h;cases hx.nilMap_inv;exact⟨.one (.int _ _),fun w=>by simp[Builtin.len_,run_underlying hu,goInt]⟩
 ·cases h
theorem E15(hS:Sim G s J w){t:TypeId}{x x' v:Value}(h:lenR P t x s=some v)(hx:VR s.next J false x x')(ty:TypeId) :
  VR s.next J false v v/\∀w2,A55 w w2->(Builtin.len_ #[t] ty #[x']).run P w2=.ok v w2:=by
 unfold lenR at h;split at h
 ·rename_i r;split at h
  ·rename_i hm;split at h
   ·rename_i es _ clock hb;cases h;obtain⟨es',hc,hl,_⟩:=hS.obj _ _ hb;obtain⟨_,rfl⟩:=hx.map_inv;have hu:∃k e,P.underlying t=some (.map k e):=by
     unfold A22 at hm;split at hm
     ·exact⟨_,_,by assumption⟩
     ·cases hm
    obtain⟨k,e,hu⟩:=hu;exact⟨.one (.int _ _),fun w2 hw=>by simp[Builtin.len_,run_underlying hu,A5w (hw.at hc),goInt,hl]⟩
   ·cases h
  ·cases h
 ·obtain⟨h1,h2⟩:=E1m h hx ty;exact⟨h1,fun w2 _=>h2 w2⟩
end Go.Zz
