import Derived.Test.YtnghaapdoanabaaGreatDoorT
import Derived.Test.YtnghaapdoanabaaGreatDoorV
set_option linter.all false
namespace Go.Zz
open Go
section
variable {P : Program} {q : IntKind} {t : TypeId} {a b : Int}
@[simp]theorem binV_and:binV P .and t (.int q a) (.int q b)=some (.int q (bits .and q a b)):=by simp[binV,A90]
@[simp]theorem binV_xor:binV P .xor t (.int q a) (.int q b)=some (.int q (bits .xor q a b)):=by simp[binV,A90]
end
@[simp]theorem lwr_all{vs ys:List Value}(h:vs.length<=ys.length):lwr vs 0 ys=ys:=by
 simp[lwr,h]
@[simp]theorem E1q(v x:Value)(vs xs:List Value):lwr (v::vs) 0 (x::xs)=x::lwr vs 0 xs:=by simp[lwr,Nat.add_comm]
@[simp]theorem E6c(vs:List Value):lwr vs 0 []=vs:=by simp[lwr]
@[simp]theorem E20(v:Value)(vs xs:List Value)(n:Nat):lwr (v::vs) (n+1) xs=v::lwr vs n xs:=by simp[lwr,Nat.add_right_comm]
structure Old(s S:St):Prop where
 le:s.next<=S.next
 eq:∀{b},b<s.next->S.heap b=s.heap b
@[simp]theorem Old.refl(s:St):Old s s:=⟨Nat.le_refl _,fun _=>rfl⟩
theorem Old.trans{s t u:St}(h:Old s t)(g:Old t u):Old s u:=⟨Nat.le_trans h.le g.le,fun hb=>(g.eq (Nat.lt_of_lt_of_le hb h.le)).trans (h.eq hb)⟩
@[simp]theorem Old.alloc{s S:St}{x:AObj}(h:Old s S):Old s (S.alloc x):=⟨by simp;have:=h.le;omega,fun hb=>by rw[St.alloc_old (Nat.lt_of_lt_of_le hb h.le),h.eq hb]⟩
theorem Old.put{s S:St}{b:Nat}{x:AObj}(h:Old s S)(hb:s.next<=b):Old s (S.put b x):=⟨by simpa using h.le,fun hb'=>by rw[St.put_other (by omega),h.eq hb']⟩
theorem A0b{Q:Post}{s S:St}{v:Value}(h:Old s S)(hv:Bel s.next v)(hq:Q v s):kEnd Q s (some v) S:=E2l (fun _ hb=>h.eq hb) hv hq
theorem Bel.up{n m:Nat}{v:Value}(h:Bel n v)(hn:n<=m):Bel m v:=by
 induction h with
 | undef=>exact .undef
 | bool b=>exact .bool b
 | int k i=>exact .int k i
 | float k i=>exact .float k i
 | string s=>exact .string s
 | nilPtr=>exact .nilPtr
 | ptr h=>exact .ptr (Nat.lt_of_lt_of_le h hn)
 | nilSlice l c=>exact .nilSlice l c
 | slice h=>exact .slice (Nat.lt_of_lt_of_le h hn)
 | nilMap=>exact .nilMap
 | map h=>exact .map (Nat.lt_of_lt_of_le h hn)
 | nilFunc=>exact .nilFunc
 | func _ _ ihf ih=>exact .func ihf ih
 | yield h=>exact .yield (Nat.lt_of_lt_of_le h hn)
 | nilIface=>exact .nilIface
 | iface _ ih=>exact .iface ih
 | agg _ ih=>exact .agg ih
 | tuple _ ih=>exact .tuple ih
 | skip=>exact .skip
structure Chg(s S:St)(M:Nat->Prop):Prop where
 le:s.next<=S.next
 eq:∀{b},b<s.next->¬M b->S.heap b=s.heap b
theorem Chg.refl{s:St}{M:Nat->Prop}:Chg s s M:=⟨Nat.le_refl _,fun _ _=>rfl⟩
theorem Old.chg{s S:St}{M:Nat->Prop}(h:Old s S):Chg s S M:=⟨h.le,fun hb _=>h.eq hb⟩
theorem Chg.old{s S:St}{M:Nat->Prop}(h:Chg s S M)(hM:∀b,b<s.next->¬M b):Old s S:=⟨h.le,fun hb=>h.eq hb (hM _ hb)⟩
theorem Chg.trans{s t u:St}{M N:Nat->Prop}(h:Chg s t M)(g:Chg t u N)(hN:∀b,N b->M b\/s.next<=b):Chg s u M:=
 ⟨Nat.le_trans h.le g.le,fun {b} hb hm=>(g.eq (Nat.lt_of_lt_of_le hb h.le) (fun hn=>(hN b hn).elim hm (fun hx=>by omega))).trans (h.eq hb hm)⟩
theorem Chg.mono{s t:St}{M N:Nat->Prop}(h:Chg s t M)(hN:∀b,M b->N b):Chg s t N:=⟨h.le,fun hb hn=>h.eq hb (fun hm=>hn (hN _ hm))⟩
def Row(ρ:Option Nat):Nat->Prop:=fun b=>ρ=some b
structure Blk(s:St)(b:Nat)(vs:List Value):Prop where
 lt:b<s.next
 eq:s.heap b=some (.cells vs false)
theorem Blk.old{s S:St}{b:Nat}{vs:List Value}(h:Blk s b vs)(o:Old s S):Blk S b vs:=⟨Nat.lt_of_lt_of_le h.lt o.le,(o.eq h.lt).trans h.eq⟩
theorem Blk.chg{s S:St}{M:Nat->Prop}{b:Nat}{vs:List Value}(h:Blk s b vs)(o:Chg s S M)(hm:¬M b):Blk S b vs:=⟨Nat.lt_of_lt_of_le h.lt o.le,(o.eq h.lt hm).trans h.eq⟩
section
variable {α : Type} {w : Nat} {E : Enc α w} {xs ys : List α} {s S : St} {v : Value}
def CapV(w:Nat):Value->Prop
 | .slice (some _) n c=>c=top+w\/c<top/\n<=c
 | _=>True
structure Enc.In(E:Enc α w)(s:St)(v:Value)(xs:List α):Prop where
 sl:E.Sl s v xs
 bel:Bel s.next v
 cap:CapV w v
theorem Enc.In.nil:E.In s (.slice none 0 0) []:=⟨.nil,.nilSlice _ _,trivial⟩
theorem Enc.In.chg{M:Nat->Prop}(h:E.In s v xs)(o:Chg s S M)(hm:∀a l c,v=.slice (some a) l c->¬M a.block):E.In S v xs:=by
 refine⟨?_,h.bel.up o.le,h.cap⟩;obtain⟨h,hb,_⟩:=h;cases h with
 | nil=>exact .nil
 | empty=>exact .empty
 | row h=>exact .row (h.same (o.eq (by simpa using hb) (hm _ _ _ rfl)))
theorem Enc.In.old(h:E.In s v xs)(o:Old s S):E.In S v xs:=h.chg (o.chg (M:=fun _=>False)) (fun _ _ _ _ h=>h)
theorem Enc.In.len{P:Program}{s':St}{t e:TypeId}(h:E.In s v xs)(ht:P.underlying t=some (.slice e)):lenR P t v s'=some (.int .i64 xs.length):=h.sl.len ht
theorem Enc.Own.in_{ρ:Option Nat}(h:E.Own s v ρ xs):E.In s v xs:=⟨h.sl,by cases h with
 | nil=>exact .nilSlice _ _
 | none_ h=>exact .slice h
 | row h=>exact .slice h,by cases h with
 | nil=>trivial
 | none_ _=>exact .inr ⟨by decide,Nat.le_refl _⟩
 | row _ _ h=>exact h.two⟩
theorem Enc.In.data(h:E.In s v xs):data v=true/\v.cells=#[v]:=by
 obtain⟨h,_,_⟩:=h;cases h<;>exact⟨rfl,rfl⟩
def A7p(v:Value)(k:Nat):Value:=match v with
 | .slice (some a) _ _=>.pointer (some ⟨a.block,a.off+k,none⟩)
 | v=>v
theorem Enc.In.idx(h:E.In s v xs){q:IntKind}{ag:Bool}{j:Int}(h0:0<=j)(h1:j<xs.length):A3g (some (none,ag,w)) v (.int q j)=some (A7p v (j.toNat*w)):=by
 obtain⟨b,o,c,rfl,_⟩:=h.sl.ne (by intro e;simp[e]at h1;omega)
 rw[B0l h0 h1];rfl
theorem Enc.In.agg(h:E.In s v xs){i:Nat}(hi:i<xs.length):A04 (some (true,w)) (A7p v (i*w)) s=some (.agg (E.cells xs[i]).toArray):=by
 obtain⟨b,o,c,rfl,hA⟩:=h.sl.ne (by intro e;simp[e]at hi)
 exact hA.agg hi
theorem Enc.In.fld(h:E.In s v xs){i k n:Nat}(hi:i<xs.length)(hk:k<w):A04 (some (false,n)) (A7p v (i*w+k)) s=(E.cells xs[i])[k]?:=by
 obtain⟨b,o,c,rfl,hA⟩:=h.sl.ne (by intro e;simp[e]at hi)
 simp only[A7p];rw[<-Nat.add_assoc];exact hA.fld hi hk
theorem Enc.In.fld0(h:E.In s v xs){i n:Nat}(hi:i<xs.length)(hk:0<w):A04 (some (false,n)) (A7p v (i*w)) s=(E.cells xs[i])[0]?:=h.fld hi hk
theorem Enc.In.one{E:Enc α 1}(h:E.In s v xs){i n:Nat}(hi:i<xs.length):A04 (some (false,n)) (A7p v i) s=(E.cells xs[i])[0]?:=by
 have:=h.fld0 (n:=n) hi (by decide);rwa [Nat.mul_one]at this
theorem Enc.In.fa(h:E.In s v xs){n m k:Nat}{ag:Bool}(hi:0<xs.length):A71 (some (n,ag,m)) (A7p v k)=some (A7p v (k+n)):=by
 obtain⟨b,o,c,rfl,hA⟩:=h.sl.ne (by intro e;simp[e]at hi)
 simp[A7p,Nat.add_assoc]
@[simp]theorem tmEq{x y:Value}:A7p (.slice none 0 0) 0=.slice none 0 0:=rfl
def B1f:Value->Bool
 | .slice none _ _=>true
 | _=>false
theorem Enc.In.nil_eq{P:Program}{t e:TypeId}(h:E.In s v xs)(ht:P.underlying t=some (.slice e)):binV P .eql t v (.slice none 0 0)=some (.bool (B1f v)):=by
 obtain⟨h,_,_⟩:=h;cases h<;>simp[binV,eqOp,ht,B1f]
theorem Enc.In.of_nil(h:E.In s v xs)(hn:B1f v=true):v=.slice none 0 0/\xs=[]:=by
 obtain⟨h,_,_⟩:=h;cases h<;>simp[B1f]at hn ⊢
@[simp]theorem bsl_zero{e:TypeId}{z b:Nat}{zero:List Value}:bslN (some (e,z,b,zero)) 0 #[]=some (.cells [] false,.slc 0 0):=by
 simp[bslN,A41,Instr.fill,A2q]
def Enc.New(E:Enc α w)(s S:St)(v:Value)(xs:List α):Prop:=∃ρ,E.Own S v ρ xs/\Old s S/\∀b,ρ=some b->s.next<=b
theorem Enc.New.nil(h:Old s S):E.New s S (.slice none 0 0) []:=⟨none,.nil,h,fun _ h=>by cases h⟩
theorem Enc.New.old_(h:E.New s S v xs):Old s S:=let ⟨_,_,h,_⟩:=h;h
theorem Enc.New.in_(h:E.New s S v xs):E.In S v xs:=let ⟨_,h,_⟩:=h;h.in_
theorem Enc.New.then{S':St}(h:E.New s S v xs)(o:Old S S'):E.New s S' v xs:=by
 obtain⟨ρ,h1,h2,h3⟩:=h;exact⟨ρ,h1.same o.le (fun b hb=>o.eq (by subst hb;exact h1.lt)),h2.trans o,h3⟩
theorem Enc.New.from{s0:St}(h:E.New s S v xs)(o:Old s0 s):E.New s0 S v xs:=by
 obtain⟨ρ,h1,h2,h3⟩:=h;exact⟨ρ,h1,o.trans h2,fun b hb=>Nat.le_trans o.le (h3 b hb)⟩
theorem B9b {e : TypeId} {bytes : Nat} {zero : List Value} {x : Value} {a : α} (hd : data x = true) (hc : x.cells.toList = E.cells a) (hz : zero.length = w) (hw : w ≤ 16777216) :
    bslN (some (e, w, bytes, zero)) 1 #[(0, x)] = some (.cells (E.cells a) true, .slc 1 1) := by
  have hl : x.cells.toList.length = w := by rw [hc]; exact E.len a
  have key : ∀ (vs cs pre : List Value), cs.length = vs.length → (vs.zipIdx pre.length).foldl (fun (cs : Array Value) (x : Value × Nat) => cs.setIfInBounds x.snd x.fst) (pre ++ cs).toArray = (pre ++ vs).toArray := by
    intro vs
    induction vs with
    | nil => intro cs pre h; have : cs = [] := by simpa using h
             subst this; rfl
    | cons v vs ih =>
      intro cs pre h
      cases cs with
      | nil => simp at h
      | cons c cs =>
        rw [List.zipIdx_cons, List.foldl_cons]
        have e1 : (pre ++ c :: cs).toArray.setIfInBounds pre.length v = ((pre ++ [v]) ++ cs).toArray := by simp
        have e2 : pre.length + 1 = (pre ++ [v]).length := by simp
        simp only [e1, e2]
        rw [ih cs (pre ++ [v]) (by simpa using h)]
        simp
  have hzz : (A2q zero w).length = w := by simp [A2q]
  have k2 := key x.cells.toList (A2q zero w) [] (by rw [hzz, hl])
  simp only [List.nil_append, List.length_nil] at k2
  have hsz : x.cells.size = w := by simpa using hl
  have k3 : Array.foldl (fun (cs : Array Value) (x : Value × Nat) => cs.setIfInBounds x.snd x.fst) (A2q zero w).toArray x.cells.zipIdx 0 x.cells.size = (E.cells a).toArray := by
    have e : x.cells.size = x.cells.zipIdx.size := by simp
    rw [← hc, ← k2, e, ← Array.foldl_toList, Array.toList_zipIdx]
  simp [bslN, A41, hd, Instr.fill, hw, hsz] at k3 ⊢
  simp [k3]
theorem Enc.Own.push{P:Program}{t e:TypeId}{bytes:Nat}{zero:List Value}{k:Post}{ρ:Option Nat}{x:Value}{a:α}(hts:A0e P t=some (e,w,bytes,zero))(htz:A5r P t=some false)(h:E.Own s v ρ xs)
  (hd:data x=true) (hc:x.cells.toList=E.cells a) (hlen:(xs.length+1)*bytes<=140737488355328) (hlen2:xs.length+1<=140737488355328)
  (hk:∀v' S ρ',E.Own S v' ρ' (xs++[a])->Chg s S (Row ρ)->(∀b,ρ'=some b->ρ=some b\/s.next<=b)->k v' S) (hz:zero.length=w:=by rfl) (hw:0<w:=by decide) (hw':w<=16777216:=by decide) :
  newW (bslN (some (e,w,bytes,zero)) 1 #[(0,x)]) (fun y s=>apdW P (A0e P t) t v y k s) s:=by
 rw[B9b hd hc hz hw',C7g,ap_eq,hts,D4c];have hsl:E.Sl (s.alloc (.cells (E.cells a) true)) (.slice (some ⟨s.next,0,none⟩) 1 1) [a]:=.row (xs:=[a]) ⟨[],[],true,by simp[Enc.row],rfl⟩
 rw[hsl.news htz];refine(h.same (s':=s.alloc (.cells (E.cells a) true)) (by simp) (fun b hb=>St.alloc_old (by subst hb;exact h.lt))).append (ys:=[a]) hw (by simpa using hlen) (by simpa using hlen2) fun v' S ρ' h1 h2 h3 h4 _=>?_
 refine hk v' S ρ' h1 ⟨by simp at h2;omega,fun {b} hb hbρ=>?_⟩ (fun b hb=>?_)
 ·rw[h4 b (by simp;omega) (fun e=>hbρ e.symm),St.alloc_old hb]
 ·rcases h3 with h|⟨b1,h,hb1⟩
  ·exact .inl (h▸hb)
  ·right;rw[hb]at h;cases h;simp at hb1;omega
theorem Enc.New.push{P:Program}{t e:TypeId}{bytes:Nat}{zero:List Value}{k:Post}{s0:St}{x:Value}{a:α}(hts:A0e P t=some (e,w,bytes,zero))(htz:A5r P t=some false)(h:E.New s0 s v xs)
  (hd:data x=true) (hc:x.cells.toList=E.cells a) (hlen:(xs.length+1)*bytes<=140737488355328) (hlen2:xs.length+1<=140737488355328)
  (hk:∀v' S,E.New s0 S v' (xs++[a])->k v' S) (hz:zero.length=w:=by rfl) (hw:0<w:=by decide) (hw':w<=16777216:=by decide) :
  newW (bslN (some (e,w,bytes,zero)) 1 #[(0,x)]) (fun y s=>apdW P (A0e P t) t v y k s) s:=by
 obtain⟨ρ,h1,h2,h3⟩:=h;refine h1.push hts htz hd hc hlen hlen2 (fun v' S ρ' g1 g2 g3=>hk v' S ⟨ρ',g1,?_,fun b hb=>?_⟩) hz hw hw'
 ·exact⟨Nat.le_trans h2.le g2.le,fun {b} hb=>(g2.eq (Nat.lt_of_lt_of_le hb h2.le) (fun e=>by have:=h3 b e;omega)).trans (h2.eq hb)⟩
 ·rcases g3 b hb with e|e
  ·exact h3 b e
  ·exact Nat.le_trans h2.le e
theorem D5b{xs:List α}{post cs:List Value}{j off:Nat}{a:α}(hj:j<xs.length)(hoff:off+cs.length<=w)(hc:lwr (E.cells xs[j]) off cs=E.cells a) :
  lwr (E.row xs++post) (j*w+off) cs=E.row (xs.set j a)++post:=by
 have e1:xs.set j a=xs.take j++a::xs.drop (j+1):=by rw[List.set_eq_take_append_cons_drop,if_pos hj]
 have hl:(E.cells xs[j]).length=w:=by simp
 have e2:E.row xs++post=(E.row (xs.take j)++(E.cells xs[j]).take off)++(((E.cells xs[j]).drop off).take cs.length++((E.cells xs[j]).drop (off+cs.length)++(E.row (xs.drop (j+1))++post))):=by
  conv=>lhs;rw[Enc.row_split hj]
  have:E.cells xs[j]=(E.cells xs[j]).take off++(((E.cells xs[j]).drop off).take cs.length++(E.cells xs[j]).drop (off+cs.length)):=by
   rw[<-List.drop_drop,List.take_append_drop,List.take_append_drop]
  conv=>lhs;rw[this]
  simp only[List.append_assoc]
 have e3:j*w+off=(E.row (xs.take j)++(E.cells xs[j]).take off).length:=by simp[Nat.min_eq_left (Nat.le_of_lt hj)];omega
 rw[e2,e3,A9f (by simp;omega),e1,Enc.row_append,Enc.row_cons,<-hc]
 simp[lwr]
theorem Enc.Own.storeF{ρ:Option Nat}{x:Value}{a:α}{j off n:Nat}{k:Post}(h:E.Own s v ρ xs)(hj:j<xs.length)(hd:data x=true)(hn:x.cells.size=n)(hoff:off+n<=w)(hc:lwr (E.cells xs[j]) off x.cells.toList=E.cells a)
  (hk:∀S,E.Own S v ρ (xs.set j a)->Chg s S (Row ρ)->S.next=s.next->k undef S):A7j (some n) (A7p v (j*w+off)) x k s:=by
 obtain⟨b,c,post,tl,rfl,rfl,h1,h2,h3⟩:=h.ne (by intro e;simp[e]at hj)
 have hjw:j*w+w<=xs.length*w:=by rw[<-Nat.succ_mul];exact Nat.mul_le_mul_right w hj
 have e:A7p (.slice (some ⟨b,0,none⟩) xs.length c) (j*w+off)=.pointer (some ⟨b,j*w+off,none⟩):=by simp[A7p]
 rw[e,C16 h2 hd hn (by simp;omega),D5b hj (by simp[hn];omega) hc]
 refine hk _ ?_ ⟨by simp,fun _ hb=>St.put_other (fun e=>hb (by rw[e];rfl))⟩ (by simp)
 have:=Enc.Own.row (E:=E) (s:=s.put b (.cells (E.row (xs.set j a)++post) tl)) (b:=b) (c:=c) (xs:=xs.set j a) (post:=post) (tl:=tl) (by simpa using h1) St.put_self (by simpa using h3)
 simpa using this
theorem Enc.Own.store{ρ:Option Nat}{x:Value}{a:α}{j:Nat}{k:Post}(h:E.Own s v ρ xs)(hj:j<xs.length)(hd:data x=true)(hc:x.cells.toList=E.cells a)
  (hk:∀S,E.Own S v ρ (xs.set j a)->Chg s S (Row ρ)->S.next=s.next->k undef S):A7j (some w) (A7p v (j*w)) x k s:=by
 have hl:x.cells.size=w:=by have:=congrArg List.length hc;simpa using this
 refine h.storeF (off:=0) hj hd hl (by omega) ?_ hk
 rw[hc];simp[lwr]
theorem Enc.Own.store1{E:Enc α 1}{ρ:Option Nat}{x:Value}{a:α}{j:Nat}{k:Post}(h:E.Own s v ρ xs)(hj:j<xs.length)(hd:data x=true)(hc:x.cells.toList=E.cells a)
  (hk:∀S,E.Own S v ρ (xs.set j a)->Chg s S (Row ρ)->S.next=s.next->k undef S):A7j (some 1) (A7p v j) x k s:=by
 have:=h.store hj hd hc hk;rwa [Nat.mul_one]at this
def A5c(w:Nat)(v:Value)(lo hi:Nat):Value:=match v with
 | .slice (some a) _ c=>.slice (some ⟨a.block,a.off+lo*w,none⟩) (hi-lo) (A2a w c lo)
 | v=>v
theorem Enc.In.part{P:Program}{t e:TypeId}{lo hi:Option Value}(h:E.In s v xs)(ht:P.underlying t=some (.slice e))(hz:A08 P e=some w)
  (hlo:okb lo/\okb hi/\bnd lo 0<=bnd hi xs.length/\bnd hi xs.length<=xs.length):slcV P t v lo hi none s=some (A5c w v (bnd lo 0) (bnd hi xs.length)):=by
 obtain⟨h,hb,hc⟩:=h;cases h with
 | nil=>exact B86 ht hz ⟨hlo.1,hlo.2.1,rfl,by have:=hlo.2.2;simp at this ⊢;omega,by have:=hlo.2.2.2;simpa using this,by simp,by simp⟩
 | empty=>exact B03 ht hz ⟨hlo.1,hlo.2.1,hlo.2.2.1,hlo.2.2.2,hc⟩
 | row h=>exact B03 ht hz ⟨hlo.1,hlo.2.1,hlo.2.2.1,hlo.2.2.2,hc⟩
theorem Enc.In.part_in{lo hi:Nat}(h:E.In s v xs)(h1:lo<=hi)(h2:hi<=xs.length):E.In s (A5c w v lo hi) ((xs.drop lo).take (hi-lo)):=by
 obtain⟨h,hb,hc⟩:=h;have hcap:∀{c:Nat},(c=top+w\/c<top/\xs.length<=c)->(A2a w c lo=top+w\/A2a w c lo<top/\hi-lo<=A2a w c lo):=fun {c} hc=>by
  unfold A2a;rcases hc with hc|hc
  ·rw[if_pos hc];exact .inl hc
  ·have:¬c=top+w:=by omega
   rw[if_neg this];right;omega
 cases h with
 | nil=>simp at h2;subst h2;simpa[A5c]using Enc.In.nil
 | empty=>
  simp at h2;subst h2;have:lo=0:=by omega
  subst this;exact⟨by simpa[A5c]using Enc.Sl.empty,by simpa[A5c]using hb,hcap hc⟩
 | row h=>
  refine⟨?_,by simpa[A5c]using hb,hcap hc⟩
  have:=Enc.Sl.row (c:=A2a w ‹_› lo) ((h.drop (Nat.le_trans h1 h2)).take (j:=hi-lo));simpa[A5c,Nat.min_eq_left (show hi-lo<=xs.length-lo by omega)]using this
theorem Enc.Own.take{ρ:Option Nat}{j:Nat}(h:E.Own s v ρ xs)(hj:j<=xs.length):E.Own s (A5c w v 0 j) ρ (xs.take j):=by
 cases h with
 | nil=>simpa[A5c]using Enc.Own.nil
 | none_ h=>simp at hj;subst hj;simpa[A5c]using Enc.Own.none_ h
 | row h1 h2 h3=>
  rename_i b c post tl;have hm:j*w<=xs.length*w:=Nat.mul_le_mul_right w hj;have:=Enc.Own.row (E:=E) (s:=s) (b:=b) (c:=c) (xs:=xs.take j) (post:=E.row (xs.drop j)++post) (tl:=tl) h1 (by rw[h2,<-List.append_assoc,<-Enc.row_append,List.take_append_drop]) (by
   have hl:(xs.take j).length=j:=by simp;omega
   rw[hl];rcases h3 with h|⟨h4,h5,h6⟩
   ·exact .inl h
   ·refine .inr ⟨h4,by omega,?_⟩
    simp[Nat.sub_mul];omega)
  have hl:(xs.take j).length=j:=by simp;omega
  rw[hl]at this;simpa[A5c]using this
theorem D7l{z:α}{m:Nat}(hw:0<w):A2q (E.cells z) (m*w)=E.row (List.replicate m z):=by
 apply List.ext_getElem?;intro i;by_cases hi:i<m*w
 ·have hi':i<(A2q (E.cells z) (m*w)).length:=by simpa using hi
  have hm:=Nat.mod_lt i hw;have hd:i/w<m:=(Nat.div_lt_iff_lt_mul hw).2 hi;have e1:(E.row (List.replicate m z))[i]?=(E.cells z)[i%w]?:=by
   have hsp:=Enc.row_split (E:=E) (xs:=List.replicate m z) (i:=i/w) (by simpa using hd)
   have hlen:(E.row ((List.replicate m z).take (i/w))).length=i/w*w:=by simp[Nat.min_eq_left (Nat.le_of_lt hd)]
   have hdm:=Nat.div_add_mod i w;rw[Nat.mul_comm]at hdm;rw[hsp,List.getElem?_append_right (by omega),hlen,List.getElem?_append_left (by simp;omega)]
   have:i-i/w*w=i%w:=by omega
   rw[this];simp
  rw[e1];simp only[A2q,List.getElem?_map,List.getElem?_range hi,Option.map_some,Enc.cells_length];rw[List.getD_eq_getElem?_getD,List.getElem?_eq_getElem (by simpa using hm)]
  rfl
 ·rw[List.getElem?_eq_none (by simpa[A2q]using hi),List.getElem?_eq_none (by simpa using hi)]
theorem Enc.Own.clear{P:Program}{t e:TypeId}{bytes:Nat}{z:α}{ρ:Option Nat}{j:Nat}{k:Post}(h:E.Own s v ρ xs)(hj:j<=xs.length)(ht:A0e P t=some (e,w,bytes,E.cells z))(hw:0<w)
  (hk:∀S,E.Own S v ρ (xs.take j++List.replicate (xs.length-j) z)->Chg s S (Row ρ)->S.next=s.next->k undef S):A6d P t (A5c w v j xs.length) k s:=by
 by_cases hjl:j=xs.length
 ·subst hjl;have:=hk s (by simpa using h) ⟨Nat.le_refl _,fun _ _=>rfl⟩ rfl
  cases h<;>simpa[A5c,A6d,ht]using this
 ·obtain⟨b,c,post,tl,rfl,rfl,h1,h2,h3⟩:=h.ne (by intro e;simp[e]at hj hjl;omega)
  simp only[A5c,Nat.zero_add];have e2:E.row xs++post=E.row (xs.take j)++(E.row (xs.drop j)++post):=by rw[<-List.append_assoc,<-Enc.row_append,List.take_append_drop]
  refine A9a ht (by omega) h2 (by rw[e2];simp[Nat.min_eq_left hj]) ?_
  rw[D7l hw];have e3:lwr (E.row xs++post) (j*w) (E.row (List.replicate (xs.length-j) z))=E.row (xs.take j++List.replicate (xs.length-j) z)++post:=by
   have:j*w=(E.row (xs.take j)).length:=by simp[Nat.min_eq_left hj]
   rw[e2,this,A9f (by simp),Enc.row_append,List.append_assoc]
  rw[e3];refine hk _ ?_ ⟨by simp,fun _ hb=>St.put_other (fun e=>hb (by rw[e];rfl))⟩ (by simp)
  have hl:(xs.take j++List.replicate (xs.length-j) z).length=xs.length:=by simp;omega
  have:=Enc.Own.row (E:=E) (s:=s.put b (.cells (E.row (xs.take j++List.replicate (xs.length-j) z)++post) tl)) (b:=b) (c:=c) (xs:=xs.take j++List.replicate (xs.length-j) z) (post:=post) (tl:=tl) (by simpa using h1) St.put_self (by rw[hl];exact h3)
  rw[hl]at this;exact this
theorem Enc.New.turn{s0:St}{v':Value}{ρ ρ':Option Nat}(h2:Old s0 s)(h3:∀b,ρ=some b->s0.next<=b)(g1:E.Own S v' ρ' ys)(g2:Chg s S (Row ρ))(g3:∀b,ρ'=some b->ρ=some b\/s.next<=b):E.New s0 S v' ys:=by
 refine⟨ρ',g1,?_,fun b hb=>?_⟩
 ·exact⟨Nat.le_trans h2.le g2.le,fun {b} hb=>(g2.eq (Nat.lt_of_lt_of_le hb h2.le) (fun e=>by have:=h3 b e;omega)).trans (h2.eq hb)⟩
 ·rcases g3 b hb with e|e
  ·exact h3 b e
  ·exact Nat.le_trans h2.le e
end
def intE(q:IntKind):Enc Int 1:=⟨fun n=>[.int q n],fun _=>rfl⟩
@[simp]theorem A9l(q:IntKind)(n:Int):(intE q).cells n=[.int q n]:=rfl
def ptrE:Enc Nat 1:=⟨fun b=>[.pointer (some ⟨b,0,none⟩)],fun _=>rfl⟩
@[simp]theorem B77(b:Nat):ptrE.cells b=[.pointer (some ⟨b,0,none⟩)]:=rfl
theorem A8h{α:Type}{xs:List α}{i:Nat}(h:i<xs.length){x:α}:x∈xs.take (i+1)↔x∈xs.take i\/x=xs[i]:=by
 rw[<-List.take_append_getElem h,List.mem_append,List.mem_singleton]
theorem B07{α:Type}{xs:List α}{m:Nat}{a:α}(h:m<xs.length):(xs.set m a).take (m+1)=xs.take m++[a]:=by
 rw[List.take_add_one,List.take_set_of_le (Nat.le_refl _)];simp[h]
theorem up{n:Nat}{M:Nat->Prop}(h:∀i,i<=n->(i<n->M (i+1))->M i):∀i,i<=n->M i:=by
 intro i hi;obtain⟨k,hk⟩:∃k,i+k=n:=⟨n-i,by omega⟩
 induction k generalizing i with
 | zero=>exact h i hi (fun hlt=>by omega)
 | succ k ih=>exact h i hi (fun hlt=>ih (i+1) (by omega) (by omega))
section maps
variable {α : Type} {q : IntKind} {f : α → Value} {l : List (Int × α)} {n m : Int} {s S : St} {b : Nat}
theorem A5q{α β:Type}(g:α->β):∀(l:List α) (j:Nat),(l.eraseIdx j).map g=(l.map g).eraseIdx j
 | [],_=>rfl
 | _::_,0=>rfl
 | a::t,j+1=>by simp[A5q g t j]
def kv(q:IntKind)(f:α->Value)(l:List (Int×α)):List (Value×Value):=l.map fun p=>(.int q p.1,f p.2)
def ixOf(n:Int):List (Int×α)->Option (Nat×α)
 | []=>none
 | p::r=>if p.1=n then some (0,p.2)else(ixOf n r).map fun x=>(x.1+1,x.2)
def mget(l:List (Int×α))(n:Int):Option α:=(ixOf n l).map (·.2)
def mput(l:List (Int×α))(n:Int)(x:α):List (Int×α):=match ixOf n l with
 | some (j,_)=>l.set j (n,x)
 | none=>l++[(n,x)]
def mdel(l:List (Int×α))(n:Int):List (Int×α):=match ixOf n l with
 | some (j,_)=>l.eraseIdx j
 | none=>l
theorem B1e(i:Nat):C0o (.int q) (.int q n) (kv q f l) i=some ((ixOf n l).map fun p=>(i+p.1,f p.2)):=by
 induction l generalizing i with
 | nil=>rfl
 | cons p r ih=>
  simp only[kv]at ih;simp only[kv,List.map_cons,C0o,Instr.sameNow,if_true,ixOf];by_cases h:p.1=n
  ·simp[h]
  ·have:(n==p.1)=false:=by simp;exact fun e=>h e.symm
   simp only[this,ih,if_neg h,Option.map_map];congr 2;funext x;simp;omega
theorem B1o{j:Nat}{x:α}(h:ixOf n l=some (j,x)):l[j]?=some (n,x):=by
 induction l generalizing j with
 | nil=>cases h
 | cons p r ih=>
  simp only[ixOf]at h;split at h
  ·rename_i hp;cases h;simp[<-hp]
  ·cases hr:ixOf n r with
   | none=>rw[hr]at h;cases h
   | some y=>rw[hr]at h;cases h;simpa using ih (j:=y.1) (by rw[hr])
theorem B5u:ixOf n l=none↔n∉l.map (·.1):=by
 induction l with
 | nil=>simp[ixOf]
 | cons p r ih=>
  simp only[ixOf];by_cases h:p.1=n
  ·simp[h]
  ·simp only[if_neg h,Option.map_eq_none_iff,ih,List.map_cons,List.mem_cons,not_or];exact⟨fun hr=>⟨fun e=>h e.symm,hr⟩,fun hr=>hr.2⟩
theorem B1g:mget l n=none↔n∉l.map (·.1):=by simp[mget,B5u]
theorem B39{x:α}(h:mget l n=some x):(n,x)∈l:=by
 simp only[mget,Option.map_eq_some_iff]at h;obtain⟨⟨j,y⟩,h1,rfl⟩:=h;exact List.mem_of_getElem? (B1o h1)
theorem A60{x:α}(hn:(l.map (·.1)).Nodup)(h:(n,x)∈l):mget l n=some x:=by
 induction l with
 | nil=>simp at h
 | cons p r ih=>
  simp only[List.map_cons,List.nodup_cons]at hn;simp only[mget,ixOf];rcases List.mem_cons.1 h with h|h
  ·subst h;simp
  ·have:p.1≠n:=fun e=>hn.1 (by rw[e];exact List.mem_map.2 ⟨_,h,rfl⟩)
   have:=ih hn.2 h;simp only[mget,Option.map_eq_some_iff]at this;obtain⟨⟨j,y⟩,h1,h2⟩:=this;simp only at h2;subst h2;simp[*]
theorem C2j{x:α}:(mput l n x).map (·.1)=if n∈l.map (·.1)then l.map (·.1)else l.map (·.1)++[n]:=by
 unfold mput;cases h:ixOf n l with
 | none=>rw[B5u]at h;simp only[if_neg h];simp
 | some y=>
  have hj:=B1o (j:=y.1) (x:=y.2) (by rw[h])
  have hm:n∈l.map (·.1):=List.mem_map.2 ⟨_,List.mem_of_getElem? hj,rfl⟩;rw[if_pos hm];apply List.ext_getElem?;intro i;simp only[List.getElem?_map,List.getElem?_set];by_cases hi:y.1=i
  ·subst hi;have hlt:=(List.getElem?_eq_some_iff.1 hj).1;simp[hlt,hj];have:=(List.getElem?_eq_some_iff.1 hj).2;rw[this]
  ·simp[hi]
theorem D1d{x:α}(hn:(l.map (·.1)).Nodup):((mput l n x).map (·.1)).Nodup:=by
 rw[C2j];split
 ·exact hn
 ·rename_i h;rw[List.nodup_append];exact⟨hn,by simp,fun a ha b hb=>by rw[List.mem_singleton.1 hb];exact fun e=>h (e▸ha)⟩
theorem C3l{r:List (Int×α)}(h:ixOf n l=none):ixOf n (l++r)=(ixOf n r).map fun x=>(x.1+l.length,x.2):=by
 induction l with
 | nil=>simp
 | cons p t ih=>
  simp only[ixOf]at h;split at h
  ·cases h
  ·rename_i hp;rw[Option.map_eq_none_iff]at h;simp only[List.cons_append,ixOf,if_neg hp,ih h,Option.map_map];congr 1
theorem B32{r:List (Int×α)}{y:Nat×α}(h:ixOf n l=some y):ixOf n (l++r)=some y:=by
 induction l generalizing y with
 | nil=>cases h
 | cons p t ih=>
  simp only[ixOf]at h ⊢;simp only[List.cons_append,ixOf];split
  ·rename_i hp;simpa[hp]using h
  ·rename_i hp;simp only[if_neg hp,Option.map_eq_some_iff]at h;obtain⟨z,h1,h2⟩:=h;rw[ih h1];simpa using h2
theorem E3y{j:Nat}{x y:α}(h:ixOf n l=some (j,y)):ixOf m (l.set j (n,x))=if m=n then some (j,x)else ixOf m l:=by
 induction l generalizing j with
 | nil=>cases h
 | cons p t ih=>
  simp only[ixOf]at h;split at h
  ·rename_i hp;cases h;simp only[List.set_cons_zero,ixOf];by_cases hm:m=n
   ·simp[hm]
   ·simp only[if_neg (show ¬n=m from fun e=>hm e.symm),if_neg hm,if_neg (show ¬p.1=m from fun e=>hm (e.symm.trans hp))]
  ·rename_i hp;simp only[Option.map_eq_some_iff]at h;obtain⟨z,h1,h2⟩:=h;cases h2;simp only[List.set_cons_succ,ixOf,ih h1];by_cases hm:m=n
   ·subst hm;simp[hp]
   ·simp only[if_neg hm]
theorem C19{x:α}:mget (mput l n x) m=if m=n then some x else mget l m:=by
 unfold mput mget;cases h:ixOf n l with
 | none=>
  simp only;cases hm:ixOf m l with
  | none=>
   rw[C3l hm];by_cases e:m=n
   ·subst e;simp[ixOf]
   ·simp[ixOf,e,show ¬n=m from fun e'=>e e'.symm]
  | some y=>
   rw[B32 hm];have:m≠n:=fun e=>by rw[e,h]at hm;cases hm
   simp[this]
 | some y=>
  simp only;rw[E3y (y:=y.2) (by rw[h])]
  by_cases e:m=n<;>simp[e]
theorem C93{j:Nat}{y:α}(hn:(l.map (·.1)).Nodup)(h:ixOf n l=some (j,y)):mget (l.eraseIdx j) m=if m=n then none else mget l m:=by
 induction l generalizing j with
 | nil=>cases h
 | cons p t ih=>
  simp only[List.map_cons,List.nodup_cons]at hn;simp only[ixOf]at h;split at h
  ·rename_i hp;cases h;simp only[List.eraseIdx_cons_zero];by_cases hm:m=n
   ·subst hm;subst hp;simp[B1g.2 hn.1]
   ·simp only[mget,ixOf,if_neg hm,if_neg (show ¬p.1=m from fun e=>hm (e.symm.trans hp)),Option.map_map]
    congr 1
  ·rename_i hp;simp only[Option.map_eq_some_iff]at h;obtain⟨z,h1,h2⟩:=h;cases h2;have:=ih hn.2 h1;simp only[List.eraseIdx_cons_succ];by_cases hpm:p.1=m
   ·have:m≠n:=fun e=>hp (hpm.trans e);simp[mget,ixOf,hpm,this]
   ·simp only[mget,ixOf,if_neg hpm,Option.map_map]at this ⊢;simpa[Function.comp_def]using this
theorem D2z(hn:(l.map (·.1)).Nodup):mget (mdel l n) m=if m=n then none else mget l m:=by
 unfold mdel;cases h:ixOf n l with
 | none=>
  simp only;by_cases e:m=n
  ·subst e;simp[mget,h]
  ·simp[e]
 | some y=>simp only;exact C93 hn (y:=y.2) (by rw[h])
theorem C99(hn:(l.map (·.1)).Nodup):((mdel l n).map (·.1)).Nodup:=by
 unfold mdel;split
 ·rw[A5q];exact hn.sublist (List.eraseIdx_sublist _ _)
 ·exact hn
structure MapR(q:IntKind)(f:α->Value)(s:St)(b:Nat)(l:List (Int×α)):Prop where
 lt:b<s.next
 eq:∃bs c,s.heap b=some (.map (kv q f l) bs c)/\bs.length=l.length/\(∀t∈bs,t<c)/\bs.Nodup
 nd:(l.map (·.1)).Nodup
theorem MapR.chg{M:Nat->Prop}(h:MapR q f s b l)(o:Chg s S M)(hm:¬M b):MapR q f S b l:=
 ⟨Nat.lt_of_lt_of_le h.lt o.le,let ⟨bs,c,h1,h2⟩:=h.eq;⟨bs,c,(o.eq h.lt hm).trans h1,h2⟩,h.nd⟩
theorem MapR.old(h:MapR q f s b l)(o:Old s S):MapR q f S b l:=h.chg (o.chg (M:=fun _=>False)) id
theorem MapR.new:MapR q f (s.alloc (.map [] [] 0)) s.next []:=⟨by simp,⟨[],0,by simp[kv],rfl,by simp,by simp⟩,by simp⟩
theorem MapR.look1{z:Value}(h:MapR q f s b l):B0y (some (.int q,z)) (.map (some b)) (.int q n) true s=some (match mget l n with|some x=>.tuple #[f x,.bool true]|none=>.tuple #[z,.bool false]):=by
 obtain⟨bs,c,h1,_⟩:=h.eq;simp only[B0y,B5v,h1,B1e,mget];cases ixOf n l<;>rfl
theorem MapR.look0{z:Value}(h:MapR q f s b l):B0y (some (.int q,z)) (.map (some b)) (.int q n) false s=some (match mget l n with|some x=>f x|none=>z):=by
 obtain⟨bs,c,h1,_⟩:=h.eq;simp only[B0y,B5v,h1,B1e,mget];cases ixOf n l<;>rfl
theorem MapR.put{z:Value}{x:α}{y:Value}{k:Post}(h:MapR q f s b l)(hy:y=f x)(hk:∀S,MapR q f S b (mput l n x)->S.next=s.next->(∀{b'},b'≠b->S.heap b'=s.heap b')->k undef S):A3y (some (.int q,z)) (.map (some b)) (.int q n) y k s:=by
 subst hy;obtain⟨bs,c,h1,h2,h3,h4⟩:=h.eq;simp only[A3y,h1,B1e];have hnd:=D1d (n:=n) (x:=x) h.nd;cases hi:ixOf n l with
 | none=>
  refine hk _ ⟨h.lt,⟨bs++[c],c+1,?_,?_,?_,?_⟩,hnd⟩ (by simp) (fun hb=>St.put_other hb)
  ·rw[St.put_self];simp[mput,hi,kv]
  ·simp[mput,hi,h2]
  ·intro t ht;rcases List.mem_append.1 ht with ht|ht
   ·have:=h3 t ht;omega
   ·rw[List.mem_singleton.1 ht];omega
  ·rw[List.nodup_append];exact⟨h4,by simp,fun a ha d hd=>by rw[List.mem_singleton.1 hd];have:=h3 a ha;omega⟩
 | some p=>
  obtain⟨j,w⟩:=p;refine hk _ ⟨h.lt,⟨bs,c,?_,?_,h3,h4⟩,hnd⟩ (by simp) (fun hb=>St.put_other hb)
  ·rw[St.put_self];simp[mput,hi,kv]
  ·simp[mput,hi,h2]
theorem MapR.del{z:Value}{k:Post}(h:MapR q f s b l)(hk:∀S,MapR q f S b (mdel l n)->S.next=s.next->(∀{b'},b'≠b->S.heap b'=s.heap b')->k undef S):delW (some (.int q,z)) (.map (some b)) (.int q n) k s:=by
 obtain⟨bs,c,h1,h2,h3,h4⟩:=h.eq;simp only[delW,h1,B1e];have hnd:=C99 (n:=n) h.nd;cases hi:ixOf n l with
 | none=>
  refine hk s ⟨h.lt,⟨bs,c,?_,?_,h3,h4⟩,hnd⟩ rfl (fun _=>rfl)
  ·simp[mdel,hi,h1]
  ·simp[mdel,hi,h2]
 | some p=>
  obtain⟨j,w⟩:=p;have hj:=(List.getElem?_eq_some_iff.1 (B1o hi)).1;refine hk _ ⟨h.lt,⟨bs.eraseIdx j,c,?_,?_,?_,?_⟩,hnd⟩ (by simp) (fun hb=>St.put_other hb)
  ·rw[St.put_self];simp[mdel,hi,kv,A5q]
  ·simp[mdel,hi,List.length_eraseIdx,h2]
  ·exact fun t ht=>h3 t (List.mem_of_mem_eraseIdx ht)
  ·exact h4.sublist (List.eraseIdx_sublist _ _)
theorem A5o{β:Type}{l:List β}(h:l.Nodup){i j:Nat}{hi:i<l.length}{hj:j<l.length}(e:l[i]=l[j]):i=j:=by
 have hp:=List.pairwise_iff_getElem.1 h;rcases Nat.lt_trichotomy i j with h1|h1|h1
 ·exact absurd e (hp i j hi hj h1)
 ·exact h1
 ·exact absurd e.symm (hp j i hj hi h1)
structure B1n(q:IntKind)(f:α->Value)(s:St)(it b:Nat)(l vis:List (Int×α)):Prop where
 map:MapR q f s b l
 lt:it<s.next
 at_:∃(bs:List Nat) (c:Nat) (js:List Nat),s.heap b=some (.map (kv q f l) bs c)/\(∀t∈bs,t<c)/\s.heap it=some (.iter (some b) c (js.map fun j=>bs.getD j 0) c)/\js.Nodup/\(∀j∈js,j<l.length)/\vis.map some=js.map fun j=>l[j]?
theorem B1n.start{k:Post}(h:MapR q f s b l)(hk:∀S,B1n q f S s.next b l []->S.next=s.next+1->Old s S->k (.pointer (some ⟨s.next,0,none⟩)) S):A75 true (.map (some b)) k s:=by
 obtain⟨bs,c,h1,h2,h3,h4⟩:=h.eq;simp only[A75,h1];refine⟨trivial,hk _ ⟨h.old (Old.alloc (.refl _)),by simp,bs,c,[],?_,h3,by simp,by simp,by simp,by simp⟩ (by simp) (Old.alloc (.refl _))⟩
 rw[St.alloc_old h.lt];exact h1
theorem B1n.old{it:Nat}{vis:List (Int×α)}(h:B1n q f s it b l vis){M:Nat->Prop}(o:Chg s S M)(hb:¬M b)(hi:¬M it):B1n q f S it b l vis:=by
 obtain⟨bs,c,js,h1,h2,h3,h4⟩:=h.at_;exact⟨h.map.chg o hb,Nat.lt_of_lt_of_le h.lt o.le,bs,c,js,(o.eq h.map.lt hb).trans h1,h2,(o.eq h.lt hi).trans h3,h4⟩
theorem B1n.next{it:Nat}{vis:List (Int×α)}{k:Post}(h:B1n q f s it b l vis)
  (hnew:∀p∈l,p∉vis->∀S,B1n q f S it b l (vis++[p])->S.next=s.next->(∀{b'},b'≠it->S.heap b'=s.heap b')->k (.tuple #[.bool true,.int q p.1,f p.2]) S)
  (hdone:vis.Perm l->k (.tuple #[.bool false]) s):B28 false (.pointer (some ⟨it,0,none⟩)) k s:=by
 obtain⟨bs,c,js,h1,h2,h3,h4,h5,h6⟩:=h.at_;obtain⟨bs',c',g1,g2,g3,g4⟩:=h.map.eq;rw[h1]at g1;cases g1;have hne:it≠b:=fun e=>by rw[e,h1]at h3;cases h3
 have hl:vis.length=js.length:=by have:=congrArg List.length h6;simpa using this
 have hvm:∀p,p∈vis↔∃j∈js,l[j]?=some p:=fun p=>by
  have:some p∈vis.map some↔some p∈js.map fun j=>l[j]?:=by rw[h6]
  simpa using this
 have hlnd:l.Nodup:=by
  have:=h.map.nd;exact List.Pairwise.of_map _ (fun a b hab e=>hab (by rw[e])) this
 simp only[B28,h3,h1];refine⟨trivial,trivial,h2,Nat.le_refl _,fun j t e hj he hts=>?_,fun hall=>hdone ?_⟩
 ·have hjl:j<l.length:=by rw[<-g2];exact(List.getElem?_eq_some_iff.1 hj).1
  have hp:l[j]?=some l[j]:=List.getElem?_eq_getElem hjl;have hjs:j∉js:=fun hm=>hts (List.mem_map.2 ⟨j,hm,by rw[List.getD_eq_getElem?_getD,hj];rfl⟩)
  have hpv:l[j]∉vis:=fun hm=>by
   obtain⟨i,hi,hli⟩:=(hvm _).1 hm;have hil:=h5 i hi;rw[List.getElem?_eq_getElem hil]at hli;have:i=j:=A5o hlnd (by simpa using hli)
   exact hjs (this▸hi)
  have hee:e=(.int q l[j].1,f l[j].2):=by
   simp only[kv,List.getElem?_map,hp]at he;simpa using he.symm
  rw[hee];refine hnew l[j] (List.getElem_mem hjl) hpv _ ⟨h.map.chg (M:=fun x=>x=it) ⟨by simp,fun _ hb=>St.put_other hb⟩ (fun e=>hne e.symm),by simpa using h.lt,bs,c,js++[j],?_,h2,?_,?_,?_,?_⟩ (by simp) (fun hb=>St.put_other hb)
  ·rw[St.put_other (fun e=>hne e.symm)];exact h1
  ·rw[St.put_self];simp[List.getD_eq_getElem?_getD,hj]
  ·rw[List.nodup_append];exact⟨h4,by simp,fun a ha d hd e=>by rw[List.mem_singleton.1 hd]at e;exact hjs (e▸ha)⟩
  ·intro i hi;rcases List.mem_append.1 hi with hi|hi
   ·exact h5 i hi
   ·rw[List.mem_singleton.1 hi];exact hjl
  ·rw[List.map_append,List.map_append,h6];simp[hp]
 ·have hcov:∀j,j<l.length->j∈js:=fun j hj=>by
   have hjb:j<bs.length:=by rw[g2];exact hj
   obtain⟨i,hi,e⟩:=List.mem_map.1 (hall bs[j] (List.getElem_mem hjb));have hib:i<bs.length:=by rw[g2];exact h5 i hi
   rw[List.getD_eq_getElem?_getD,List.getElem?_eq_getElem hib]at e;have:i=j:=A5o g4 (by simpa using e)
   exact this▸hi
  have hp:js.Perm (List.range l.length):=by
   rw[List.perm_ext_iff_of_nodup h4 List.nodup_range];exact fun j=>⟨fun hj=>List.mem_range.2 (h5 j hj),fun hj=>hcov j (List.mem_range.1 hj)⟩
  have h7:(vis.map some).Perm ((List.range l.length).map fun j=>l[j]?):=by rw[h6];exact hp.map _
  have h8:((List.range l.length).map fun j=>l[j]?)=l.map some:=by
   apply List.ext_getElem?;intro i;by_cases hi:i<l.length
   ·simp[hi]
   ·simp[hi]
  rw[h8]at h7;have:=h7.filterMap id;simpa[List.filterMap_map]using this
end maps
@[simp]theorem F0v{src:Bool}{k:Option IntKind}{x:Value}{s:St}:C43 false src k x s=D6n src k x:=rfl
@[simp]theorem G0r{src:Bool}{k:Option IntKind}{x:Value}{s:St}:C43 true src k x s=strV x s:=rfl
end Go.Zz
set_option maxRecDepth 20000
set_option linter.all false
namespace Go.Zz
open Go
abbrev Y0:=Shut P wips (fun _=>none)
abbrev CC(X:Y0):A33:=calls X
@[congr]theorem CC_congr{X:Y0}{f:FuncId}{args args':List Value}{k:Post}{s s':St}(ha:mk args=args')(hs:mk s=s'):CC X f args k s=CC X f args' k s':=by simp only[mk]at *;rw[ha,hs]
variable {X : Y0}
def cmp3(a b:Int):Int:=if a<b then -1 else if b<a then 1 else 0
theorem D6k{a:Int}{Q:Post}{s:St}(h:Q (.bool false) s):CC X 147 [.int .u64 a] Q s:=by
 refine F03 rfl ?_
 try simp -implicitDefEqProofs (disch:=first|exact dsc|fail)[h]
theorem A6w{a b:Int}{Q:Post}{s:St}(h:Q (.bool (decide (a<b))) s):CC X 108 [.int .u64 a,.int .u64 b] Q s:=by
 refine F3k rfl ?_
 repeat (first|(refine D6k ?_)|simp -implicitDefEqProofs (disch:=first|exact dsc|fail)[ h])
theorem D3x{a b:Int}{Q:Post}{s:St}(h:Q (.int .i64 (cmp3 a b)) s):CC X 194 [.int .u64 a,.int .u64 b] Q s:=by
 refine F6w rfl ?_;unfold cmp3 at h
 repeat (first|(refine D6k ?_)|simp -implicitDefEqProofs (disch:=first|exact dsc|fail)[])
 split
 ·simp_all
 ·split<;>simp_all
theorem D4w{a:Int}{Q:Post}{s:St}(h:Q (.bool false) s):CC X 191 [.int .i64 a] Q s:=by
 refine F3r rfl ?_
 try simp -implicitDefEqProofs (disch:=first|exact dsc|fail)[h]
theorem A6z{a b:Int}{Q:Post}{s:St}(h:Q (.bool (decide (a<b))) s):CC X 174 [.int .i64 a,.int .i64 b] Q s:=by
 refine E9z rfl ?_
 repeat (first|(refine D4w ?_)|simp -implicitDefEqProofs (disch:=first|exact dsc|fail)[ h])
theorem B4u{a b:Int}{Q:Post}{s:St}(h:Q (.int .i64 (cmp3 a b)) s):CC X 193 [.int .i64 a,.int .i64 b] Q s:=by
 refine F3q rfl ?_;unfold cmp3 at h
 repeat (first|(refine D4w ?_)|simp -implicitDefEqProofs (disch:=first|exact dsc|fail)[])
 split
 ·simp_all
 ·split<;>simp_all
theorem F8j {v : Value} {xs : List Int} {x : Int} {Q : Post} {s : St} (hv : (intE .u64).In s v xs) (hlen : xs.length < 1000000000) (h1 : x ∈ xs → ∀ i : Nat, Q (.int .i64 i) s) (h0 : x ∉ xs → Q (.int .i64 (-1)) s) : CC X 123 [v, .int .u64 x] Q s := by
  refine F22 rfl ?_
  try simp -implicitDefEqProofs (disch:=first|exact dsc|fail) [hv.len A0c]
  refine D05 fun I hI => ?_
  refine up (n := xs.length) (M := fun i => x ∉ xs.take i → ∀ u, I v (.int .u64 x) u (.int .i64 xs.length) (.int .i64 i) s) (fun i hi ih hn u => ?_) 0 (Nat.zero_le _) (by simp) _
  refine hI _ _ _ _ _ _ ?_
  by_cases hlt : i < xs.length
  · try simp -implicitDefEqProofs (disch:=first|exact dsc|fail) [hlt, hv.idx, hv.one]
    split
    · rename_i e; exact h1 (e ▸ List.getElem_mem hlt) i
    · refine ih hlt ?_ _
      rw [A8h hlt]
      simp [hn, *]
  · try simp -implicitDefEqProofs (disch:=first|exact dsc|fail) [hlt]
    rw [List.take_of_length_le (by omega)] at hn
    exact h0 hn
theorem B7x{v:Value}{xs:List Int}{x:Int}{Q:Post}{s:St}(hv:(intE .u64).In s v xs)(hlen:xs.length<1000000000)(hq:Q (.bool (decide (x∈xs))) s):CC X 91 [v,.int .u64 x] Q s:=by
 refine G9z rfl ?_
 try simp -implicitDefEqProofs (disch:=first|exact dsc|fail)[]
 refine F8j hv hlen (fun h i=>?_) (fun h=>?_)
 ·try simp -implicitDefEqProofs (disch:=first|exact dsc|fail)[]
  simpa[h]using hq
 ·try simp -implicitDefEqProofs (disch:=first|exact dsc|fail)[]
  simpa[h]using hq
theorem B57{v f:Value}{xs:List Int}{c:Int->Bool}{Q:Post}{s:St}(hv:(intE .u64).In s v xs)(hlen:xs.length<1000000000)
  (hc:∀x∈xs,∀Q:Post,Q (.bool (c x)) s->A0u P (CC X) f [.int .u64 x] Q s)
  (h1:∀i (hi:i<xs.length),(∀j (hj:j<i),c xs[j]=false)->c xs[i]=true->Q (.int .i64 i) s) (h0:(∀x∈xs,c x=false)->Q (.int .i64 (-1)) s):CC X 65 [v,f] Q s:=by
 refine G3t rfl ?_
 try simp -implicitDefEqProofs (disch:=first|exact dsc|fail)[hv.len A0c]
 refine D39 fun I hI=>?_;refine up (n:=xs.length) (M:=fun i=>(∀j (hj:j<xs.length),j<i->c xs[j]=false)->∀u,I v f u (.int .i64 xs.length) (.int .i64 i) s) (fun i hi ih hn u=>?_) 0 (Nat.zero_le _) (fun j _ hj=>by omega) _
 refine hI _ _ _ _ _ _ ?_;by_cases hlt:i<xs.length
 ·try simp -implicitDefEqProofs (disch:=first|exact dsc|fail)[hlt,hv.idx,hv.one]
  refine hc xs[i] (List.getElem_mem hlt) _ ?_
  try simp -implicitDefEqProofs (disch:=first|exact dsc|fail)[]
  by_cases hx:c xs[i]=true
  ·simp -implicitDefEqProofs (disch:=first|exact dsc|fail)[hx];exact h1 i hlt (fun j hj=>hn j (by omega) hj) hx
  ·simp -implicitDefEqProofs (disch:=first|exact dsc|fail)[hx];refine ih hlt (fun j hj hji=>?_) _;by_cases hj':j=i
   ·subst hj';simpa using hx
   ·exact hn j hj (by omega)
 ·try simp -implicitDefEqProofs (disch:=first|exact dsc|fail)[hlt]
  refine h0 (fun x hx=>?_);obtain⟨j,hj,rfl⟩:=List.getElem_of_mem hx;exact hn j hj (by omega)
theorem B6c{v f:Value}{xs:List Int}{c:Int->Bool}{Q:Post}{s:St}(hv:(intE .u64).In s v xs)(hlen:xs.length<1000000000)
  (hc:∀x∈xs,∀Q:Post,Q (.bool (c x)) s->A0u P (CC X) f [.int .u64 x] Q s) (hq:Q (.bool (xs.any c)) s):CC X 136 [v,f] Q s:=by
 refine F4m rfl ?_
 try simp -implicitDefEqProofs (disch:=first|exact dsc|fail)[]
 refine B57 hv hlen hc (fun i hi hj hx=>?_) (fun hn=>?_)
 ·try simp -implicitDefEqProofs (disch:=first|exact dsc|fail)[]
  rwa [List.any_eq_true.2 ⟨_,List.getElem_mem hi,hx⟩]at hq
 ·try simp -implicitDefEqProofs (disch:=first|exact dsc|fail)[]
  have:xs.any c=false:=by rw[List.any_eq_false];exact fun x hx=>by simp[hn x hx]
  rwa [this]at hq
theorem E99{v:Value}{xs:List Int}{Q:Post}{s:St}(hv:(intE .u8).In s v xs)(hlen:xs.length<1000000000)(hq:∀v' S,(intE .u8).New s S v' xs->Q v' S):CC X 68 [v] Q s:=by
 refine G3o rfl ?_
 try simp -implicitDefEqProofs (disch:=first|exact dsc|fail)[hv.nil_eq A73]
 by_cases hvn:B1f v=true
 ·obtain⟨rfl,rfl⟩:=hv.of_nil hvn;simp -implicitDefEqProofs (disch:=first|exact dsc|fail)[hvn];exact hq _ _ (.nil (.refl _))
 ·have ho:Old s (s.alloc (.cells [] false)):=by simp
  simp -implicitDefEqProofs (disch:=first|exact dsc|fail)[hvn,(hv.old ho).sl.news C5s];refine(Enc.Own.none_ (E:=(intE .u8)) (s:=s.alloc (.cells [] false)) (b:=s.next) (o:=0) (by simp)).append (ys:=xs) (by decide) (by simp;omega) (by simp;omega) fun v' S ρ' h1 h2 h3 h4 _=>?_
  refine A0a (hq v' S ⟨ρ',by simpa using h1,⟨by simp at h2;omega,fun {b} hb=>?_⟩,fun b hb=>?_⟩)
  ·rw[h4 b (by simp;omega) (by simp),St.alloc_old hb]
  ·rcases h3 with h|⟨b1,h,hb1⟩
   ·rw[h]at hb;cases hb
   ·rw[hb]at h;cases h;simp at hb1;omega
theorem C2k{v f:Value}{ρ:Option Nat}{xs:List Int}{c:Int->Bool}{Q:Post}{s:St}(hv:(intE .u64).Own s v ρ xs)(hlen:xs.length<1000000000)
  (hc:∀x∈xs,∀(Q:Post) S,Chg s S (Row ρ)->Q (.bool (c x)) S->A0u P (CC X) f [.int .u64 x] Q S)
  (hq:∀v' S,(intE .u64).Own S v' ρ (xs.filter fun x=>!c x)->Chg s S (Row ρ)->Q v' S):CC X 32 [v,f] Q s:=by
 refine G1u rfl ?_
 try simp -implicitDefEqProofs (disch:=first|exact dsc|fail)[]
 refine B57 hv.in_ hlen (c:=c) (fun x hx Q hQ=>hc x hx Q s ⟨Nat.le_refl _,fun _ _=>rfl⟩ hQ) (fun i0 hi0 hbef hat=>?_) (fun hn=>?_)
 ·have hi0':¬(i0:Int)=-1:=by omega
  try simp -implicitDefEqProofs (disch:=first|exact dsc|fail)[hi0']
  refine D6b fun I hI=>?_;have hf0:(xs.take (i0+1)).filter (fun x=>!c x)=xs.take i0:=by
   rw[<-List.take_append_getElem hi0,List.filter_append];have h1:(xs.take i0).filter (fun x=>!c x)=xs.take i0:=by
    rw[List.filter_eq_self];intro x hx;obtain⟨j,hj,rfl⟩:=List.getElem_of_mem hx;simp only[List.length_take]at hj;rw[List.getElem_take,hbef j (by omega)];rfl
   simp[h1,hat]
  have key:∀j:Nat,j<=xs.length->1<=j->∀S,∀ys:List Int,ys.length=xs.length->ys.drop j=xs.drop j->(xs.take j).filter (fun x=>!c x)=ys.take ((xs.take j).filter (fun x=>!c x)).length->((xs.take j).filter (fun x=>!c x)).length<j->(intE .u64).Own S v ρ ys->Chg s S (Row ρ)->
    I v f (.int .i64 ((xs.take j).filter (fun x=>!c x)).length) (.int .i64 j) S:=by
   refine up fun j hj ih h1j S ys hl hd ht hlt hS hch=>?_;refine hI _ _ _ _ _ ?_;have hSI:=hS.in_;have hlenS:=hSI.len (P:=P) (s':=S) A0c;generalize hm:((xs.take j).filter (fun x=>!c x)).length=m at *;by_cases hjl:j<xs.length
   ·have hjy:j<ys.length:=by omega
    have hyx:ys[j]=xs[j]:=by
     have e1:(ys.drop j)[0]?=(xs.drop j)[0]?:=by rw[hd]
     simpa[List.getElem?_drop,hjl,hjy]using e1
    have htj:(xs.take (j+1)).filter (fun x=>!c x)=(xs.take j).filter (fun x=>!c x)++if c xs[j]then []else [xs[j]]:=by
     rw[<-List.take_append_getElem hjl,List.filter_append];by_cases hcx:c xs[j]<;>simp[hcx]
    try simp -implicitDefEqProofs (disch:=first|exact dsc|fail)[hlenS,hjy,hjl,hl,hSI.idx,hSI.one,hyx]
    refine hc _ (List.getElem_mem hjl) _ S hch ?_;by_cases hcx:c xs[j]=true
    ·try simp -implicitDefEqProofs (disch:=first|exact dsc|fail)[hcx]
     have:=ih hjl (by omega) S ys hl (by rw[<-List.drop_drop,<-List.drop_drop,hd]) (by rw[htj];simp[hcx];rw[hm];exact ht) (by rw[htj];simp[hcx];omega) hS hch
     rw[htj]at this;simpa[hcx,hm]using this
    ·try simp -implicitDefEqProofs (disch:=first|exact dsc|fail)[hcx,hSI.idx]
     refine hS.store1 (a:=xs[j]) (by omega) rfl (by rfl) fun S' hS' hch' hn'=>?_
     try simp -implicitDefEqProofs (disch:=first|exact dsc|fail)[]
     have hdr:(ys.set m xs[j]).drop (j+1)=xs.drop (j+1):=by
      rw[List.drop_set_of_lt (by omega),<-List.drop_drop,<-List.drop_drop,hd]
     have:=ih hjl (by omega) S' (ys.set m xs[j]) (by simpa using hl) hdr (by
      rw[htj];simp[hcx];have hmm:(List.filter (fun x=>!c x) (List.take j xs)).length+1=m+1:=by rw[hm]
      rw[hmm,List.take_succ_eq_append_getElem (by simp;omega)]
      simp;rw[List.take_set_of_le (Nat.le_refl _),<-ht]) (by rw[htj];simp[hcx];omega) hS' (hch.trans hch' (fun b hb=>.inl hb))
     rw[htj]at this;simpa[hcx,hm]using this
   ·have hjx:j=xs.length:=by omega
    subst hjx;rw[List.take_length]at hm ht;have hmle:m<=ys.length:=by omega
    have hnl:¬xs.length<ys.length:=by omega
    try simp -implicitDefEqProofs (disch:=first|exact dsc|fail)[hlenS,hnl,hSI.part A0c A4u]
    refine hS.clear (z:=0) hmle A1o (by decide) fun S' hS' hch' hn'=>?_
    have hS2:=hS'.in_
    try simp -implicitDefEqProofs (disch:=first|exact dsc|fail)[hS2.part A0c A4u,hl]
    refine A0a (hq _ S' ?_ (hch.trans hch' (fun b hb=>.inl hb)));have:=hS'.take (j:=m) (by simp;omega)
    rw[List.take_append_of_le_length (by simp;omega),List.take_of_length_le (by simp;omega)]at this
    rw[ht];exact this
  have:=key (i0+1) (by omega) (by omega) s xs rfl rfl (by rw[hf0];simp<;>omega) (by rw[hf0];simp<;>omega) hv ⟨Nat.le_refl _,fun _ _=>rfl⟩
  rw[hf0]at this;have e:(xs.take i0).length=i0:=by simp;omega
  rw[e]at this;simpa using this
 ·try simp -implicitDefEqProofs (disch:=first|exact dsc|fail)[]
  have:xs.filter (fun x=>!c x)=xs:=by rw[List.filter_eq_self];exact fun x hx=>by simp[hn x hx]
  exact hq v s (by rwa [this]) ⟨Nat.le_refl _,fun _ _=>rfl⟩
end Go.Zz
