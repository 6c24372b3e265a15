import Derived.Test.YtnghaapdoanabaaGreatDoorR
set_option linter.all false
namespace Go.Zz
open Go
def D46:Value:=.chan none
def rep(n:Nat)(v:Value):List Value:=List.replicate n v
abbrev cT:=A33
abbrev pT:=Post
abbrev kT:=A0l
abbrev vT:=Value
theorem dsc{p:Prop}(h:p:=by first|omega|simp -implicitDefEqProofs<;>omega):p:=h
def hZ(n:Nat):Hint:=⟨n,fun _=>[],fun _=>⟨[],[],[],[],[],[]⟩⟩
abbrev V1:=Value->St->Prop
abbrev V2:=Value->Value->St->Prop
abbrev V3:=Value->Value->Value->St->Prop
abbrev V4:=Value->Value->Value->Value->St->Prop
abbrev V5:=Value->Value->Value->Value->Value->St->Prop
abbrev V6:=Value->Value->Value->Value->Value->Value->St->Prop
abbrev V7:=Value->Value->Value->Value->Value->Value->Value->St->Prop
abbrev V8:=Value->Value->Value->Value->Value->Value->Value->Value->St->Prop
abbrev V9:=Value->Value->Value->Value->Value->Value->Value->Value->Value->St->Prop
abbrev V10:=Value->Value->Value->Value->Value->Value->Value->Value->Value->Value->St->Prop
def bAr(l:List UInt8):ByteArray:=⟨l.toArray⟩
def un:Nat->List Value->List Value
 | 0,l=>l
 | n+1,l=>undef::un n l
def butL(n:Nat)(l:List Nat):List Nat:=(List.range n).filter fun i=>!inL i l
section
variable {P : Program} {C : A33} {k : Post} {s s' : St} {v : Value}
def mk{α:Sort _}(a:α):α:=a
@[simp]theorem mk_eq{α:Sort _}(a:α):mk a=a:=by rw[mk]
@[congr]theorem F01{o o':Option Value}(h:mk o=o'):A1s o k s=A1s o' k s:=by simp only[mk]at *;rw[h]
@[congr]theorem G00{o o':Option Value}{k:Value->Prop}(h:mk o=o'):optW o k=optW o' k:=by simp only[mk]at *;rw[h]
@[congr]theorem F8q{o o':Option (AObj×NewV)}(h:mk o=o'):newW o k s=newW o' k s:=by simp only[mk]at *;rw[h]
@[congr]theorem E6l{n n':Option Nat}{p p' x x':Value}(hn:mk n=n')(hp:mk p=p')(hx:mk x=x'):A7j n p x k s=A7j n' p' x' k s:=by simp only[mk]at *;rw[hn,hp,hx]
@[congr]theorem E4s{m m':Option (TypeDesc×Value)}{p p' x x' y y':Value}(hm:mk m=m')(hp:mk p=p')(hx:mk x=x')(hy:mk y=y'):A3y m p x y k s=A3y m' p' x' y' k s:=by simp only[mk]at *;rw[hm,hp,hx,hy]
@[congr]theorem G04{m m':Option (TypeDesc×Value)}{p p' x x':Value}(hm:mk m=m')(hp:mk p=p')(hx:mk x=x'):delW m p x k s=delW m' p' x' k s:=by simp only[mk]at *;rw[hm,hp,hx]
@[congr]theorem gW_congr{w w':Option Bool}{X:Post->St->Prop}(h:mk w=w'):gW w X k s=gW w' X k s:=by simp only[mk]at *;rw[h]
@[congr]theorem F3l{x x':Value}{p q:Prop}(h:mk x=x'):D0l x p q=D0l x' p q:=by simp only[mk]at *;rw[h]
@[congr]theorem F15{f f':Value}{args args':List Value}(hf:mk f=f')(ha:mk args=args'):A0u P C f args k s=A0u P C f' args' k s:=by simp only[mk]at *;rw[hf,ha]
@[congr]theorem F2z{g:FuncId}{args args':List Value}(ha:mk args=args'):B3u P C g args k s=B3u P C g args' k s:=by simp only[mk]at *;rw[ha]
@[congr]theorem F4o{f f':Value}{n:String}{args args':List Value}(hf:mk f=f')(ha:mk args=args'):E3r P C f n args k s=E3r P C f' n args' k s:=by simp only[mk]at *;rw[hf,ha]
@[congr]theorem F94{o o':Option (TypeId×Nat×Nat×List Value)}{u:TypeId}{x x' y y':Value}(ho:mk o=o')(hx:mk x=x')(hy:mk y=y'):apdW P o u x y k s=apdW P o' u x' y' k s:=by simp only[mk]at *;rw[ho,hx,hy]
@[congr]theorem G02{o o':Option (TypeId×Nat×Nat×List Value)}{x x' y y':Value}(ho:mk o=o')(hx:mk x=x')(hy:mk y=y'):cpyW o x y k s=cpyW o' x' y' k s:=by simp only[mk]at *;rw[ho,hx,hy]
@[congr]theorem E8y{t:TypeId}{x x':Value}(hx:mk x=x'):A6d P t x k s=A6d P t x' k s:=by simp only[mk]at *;rw[hx]
@[congr]theorem F82{t:TypeId}{x x':Value}(hx:mk x=x'):capW P t x k s=capW P t x' k s:=by simp only[mk]at *;rw[hx]
@[congr]theorem F8x{Q:Post}{o o':Option Value}{s0:St}(h:mk o=o')(hs:mk s=s'):kEnd Q s0 o s=kEnd Q s0 o' s':=by simp only[mk]at *;rw[h,hs]
@[congr]theorem F0m{wips:FuncId->Hint}{laid:Laid}{X:Shut P wips laid}{f:FuncId}{args args':List Value}(ha:mk args=args')(hs:mk s=s'):calls X f args k s=calls X f args' k s':=by simp only[mk]at *;rw[ha,hs]
def ap(k:Post)(v:Value)(s:St):Prop:=k v s
@[congr]theorem ap_congr{k:Post}{v v':Value}{s s':St}(hv:mk v=v')(hs:mk s=s'):ap k v s=ap k v' s':=by simp only[mk]at *;rw[hv,hs]
@[simp]theorem ap_eq{k:Post}{v:Value}{s:St}:ap k v s=k v s:=by rw[ap]
@[simp]theorem G0b:A1s (some v) k s=ap k v s:=rfl
@[simp]theorem G0y:A1s none k s=False:=rfl
@[simp]theorem G3c{p:Prop}[Decidable p]{a b:Option Value}:A1s (if p then a else b) k s=if p then A1s a k s else A1s b k s:=by split<;>rfl
@[simp]theorem D8q{k:Value->Prop}:optW (some v) k=k v:=rfl
@[simp]theorem G1t{k:Value->Prop}:optW none k=False:=rfl
@[simp]theorem F6p{b:Bool}:A1j true (.bool b)=some b:=by cases b<;>rfl
def nb(b:Bool):Bool:=!b
@[simp]theorem nb_true:nb true=false:=rfl
@[simp]theorem nb_false:nb false=true:=rfl
@[simp]theorem E85{b:Bool}:A1j false (.bool b)=some (nb b):=by cases b<;>rfl
@[simp]theorem gW_true{X:Post->St->Prop}:gW (some true) X k s=X k s:=rfl
@[simp]theorem gW_false{X:Post->St->Prop}:gW (some false) X k s=ap k D46 s:=rfl
@[simp]theorem gW_bind{b:Bool}{o:Option Value}:gW (some b) (fun k s=>A1s o k s) k s=A1s (gO (some b) o) k s:=by cases b<;>rfl
@[simp]theorem gW_load{b:Bool}{ag:Option (Bool×Nat)}{p:Value}:gW (some b) (fun k s=>A1s (A04 ag p s) k s) k s=A1s (gO (some b) (A04 ag p s)) k s:=by cases b<;>rfl
@[simp]theorem gW_look{b:Bool}{m:Option (TypeDesc×Value)}{x y:Value}{ok:Bool}:gW (some b) (fun k s=>A1s (B0y m x y ok s) k s) k s=A1s (gO (some b) (B0y m x y ok s)) k s:=by cases b<;>rfl
@[simp]theorem gW_len{b:Bool}{P:Program}{t:TypeId}{x:Value}:gW (some b) (fun k s=>A1s (lenR P t x s) k s) k s=A1s (gO (some b) (lenR P t x s)) k s:=by cases b<;>rfl
def A19(b:Bool)(v:Value):Value:=if b=true then v else D46
@[simp]theorem E97:A19 true v=v:=rfl
@[simp]theorem E70:A19 false v=D46:=rfl
@[simp]theorem F0f{w:Bool}:A1j w D46=some false:=rfl
@[simp]theorem gO_some{b:Bool}:gO (some b) (some v)=some (A19 b v):=by cases b<;>rfl
@[simp]theorem gO_true{x:Option Value}:gO (some true) x=x:=rfl
@[simp]theorem gO_false{x:Option Value}:gO (some false) x=some D46:=rfl
@[congr]theorem gO_congr{b b':Bool}{x x':Option Value}(hb:b=b')(h:b'=true->x=x'):gO (some b) x=gO (some b') x':=by
 subst hb;cases b with
 | true=>exact h rfl
 | false=>rfl
section A19
variable {b : Bool} {x y z : Value} {t : TypeId} {op : BinOp} {uo : UnOp} {ag : Option (Bool × Nat)} {fo : Option (Nat × Bool × Nat)} {eo : Option (Option Nat × Bool × Nat)} {c1 : Bool} {c2 : Option IntKind} {i : Nat} {m : Option (TypeDesc × Value)} {ok str : Bool}
@[simp]theorem gO_o0:gO (some b) (lenR P t (A19 b x) s)=gO (some b) (lenR P t x s):=by cases b<;>rfl
@[simp]theorem gO_o1:gO (some b) (binV P op t (A19 b x) y)=gO (some b) (binV P op t x y):=by cases b<;>rfl
@[simp]theorem gO_o2:gO (some b) (binV P op t x (A19 b y))=gO (some b) (binV P op t x y):=by cases b<;>rfl
@[simp]theorem gO_o3:gO (some b) (A04 ag (A19 b x) s)=gO (some b) (A04 ag x s):=by cases b<;>rfl
@[simp]theorem gO_o4:gO (some b) (A71 fo (A19 b x))=gO (some b) (A71 fo x):=by cases b<;>rfl
@[simp]theorem gO_o5:gO (some b) (A3g eo (A19 b x) y)=gO (some b) (A3g eo x y):=by cases b<;>rfl
@[simp]theorem gO_o6:gO (some b) (A3g eo x (A19 b y))=gO (some b) (A3g eo x y):=by cases b<;>rfl
@[simp]theorem gO_o7:gO (some b) (nilV (A19 b x))=gO (some b) (nilV x):=by cases b<;>rfl
end A19
theorem B20{b:Bool}{X:Post->St->Prop}(v:Value)(h:b=true->∀k:Post,k v s->X k s)(hk:k (A19 b v) s):gW (some b) X k s:=by
 cases b with
 | true=>exact h rfl k hk
 | false=>exact hk
@[simp]theorem G9j{p q:Prop}:chkW (some true) p q=(p/\q):=rfl
@[simp]theorem G66{b:Bool}{p q:Prop}:chkW (some b) p q=((b=true->p)/\q):=by cases b<;>simp[chkW]
@[simp]theorem F9d{a b:Value}:A6r (.bool true) a b=some a:=rfl
@[simp]theorem F3w{a b:Value}:A6r (.bool false) a b=some b:=rfl
@[simp]theorem H04{b c:Bool}:A6r (.bool b) (A19 b (.bool c)) (.bool false)=some (.bool (b&&c)):=by cases b<;>rfl
@[simp]theorem pickV_or{b c:Bool}:A6r (.bool b) (.bool true) (A19 (nb b) (.bool c))=some (.bool (b||c)):=by cases b<;>rfl
@[simp]theorem F98{b:Bool}{x y:Prop}:D0l (.bool b) x y=if b=true then x else y:=by cases b<;>rfl
@[congr]theorem G8y{o o':Option (AObj×NewV)}{q:Prop}(h:mk o=o'):mkW o q=mkW o' q:=by simp only[mk]at *;rw[h]
@[simp]theorem mkW_some{x:AObj×NewV}{q:Prop}:mkW (some x) q=q:=rfl
@[simp]theorem newW_ptr{x:AObj}:newW (some (x,.ptr)) k s=ap k (.pointer (some ⟨s.next,0,none⟩)) (s.alloc x):=rfl
@[simp]theorem C7g{x:AObj}{l c:Nat}:newW (some (x,.slc l c)) k s=ap k (.slice (some ⟨s.next,0,none⟩) l c) (s.alloc x):=rfl
@[simp]theorem newW_map{x:AObj}:newW (some (x,.map)) k s=ap k (.map (some s.next)) (s.alloc x):=rfl
@[simp]theorem F8p{z:List Value}:B40 (some z)=some (.cells z false,.ptr):=rfl
@[simp]theorem unV_not{b:Bool}:unV .not (.bool b)=some (.bool !b):=rfl
@[simp]theorem unV_neg{q:IntKind}{n:Int}:unV .neg (.int q n)=some (.int q (q.wrap (0-n))):=rfl
@[simp]theorem nilV_ptr{a:Addr}:nilV (.pointer (some a))=some (.pointer (some a)):=rfl
@[simp]theorem G3e{f:FuncId}{a b:Array Value}:nilV (.func (.func f) a b)=some (.func (.func f) a b):=rfl
@[simp]theorem G0l{t:TypeId}{x:Value}:nilV (.iface t x)=some (.iface t x):=rfl
@[simp]theorem F48{n m:Nat}{ag:Bool}{a:Addr}:A71 (some (n,ag,m)) (.pointer (some a))=some (.pointer (some ⟨a.block,a.off+n,none⟩)):=rfl
@[simp]theorem F8n{vs:Array Value}{i:Nat}:extV (.tuple vs) i=vs[i]?:=rfl
@[simp]theorem G0x{k:IntKind}{q:IntKind}{n:Int}:D6n true (some k) (.int q n)=some (.int k (k.wrap n)):=rfl
@[simp]theorem retV_one{v:Value}:retV (some [v])=some v:=rfl
@[simp]theorem H0x:retV (some [])=some (.tuple #[]):=rfl
@[simp]theorem retV_two{u v:Value}:retV (some [u,v])=some (.tuple #[u,v]):=rfl
@[simp]theorem G03{u v w:Value}:retV (some [u,v,w])=some (.tuple #[u,v,w]):=rfl
@[simp]theorem G38{u v w x:Value}:retV (some [u,v,w,x])=some (.tuple #[u,v,w,x]):=rfl
@[simp]theorem F02{l:List Value}:A03 (some v) (some l)=some (v::l):=rfl
theorem A0a{Q:Post}(h:Q v s'):kEnd Q s (some v) s':=.inl h
theorem E2l{Q:Post}(hh:∀b,b<s.next->s'.heap b=s.heap b)(hv:Bel s.next v)(h:Q v s):kEnd Q s (some v) s':=.inr ⟨hh,hv,h⟩
@[simp]theorem G20{Q:Post}:kEnd Q s (some v) s↔Q v s:=⟨fun h=>h.elim id fun h=>h.2.2,.inl⟩
@[simp]theorem C55{g:FuncId}{args:List Value}:A0u P C (fv g) args k s=B3u P C g args k s:=by
 simp[A0u,fv]
@[simp]theorem F8f{g:FuncId}{first caps args:List Value}:A0u P C (.func (.func g) first.toArray caps.toArray) args k s=B3u P C g (first++(args++caps)) k s:=by
 simp[A0u]
@[simp]theorem A0n{g:FuncId}{args:List Value}(h:A3s P g=true):B3u P C g args k s=C g args k s:=by
 unfold B3u;rw[h]
def BelL(n:Nat)(l:List Value):Prop:=∀x∈l,Bel n x
section bel
variable {n : Nat} {l l' : List Value}
@[simp]theorem belL_nil:BelL n []:=fun _ h=>by simp at h
@[simp]theorem G7i:BelL n (v::l)↔Bel n v/\BelL n l:=by simp[BelL]
@[simp]theorem bel_bool{b:Bool}:Bel n (.bool b):=.bool b
@[simp]theorem bel_int{q:IntKind}{i:Int}:Bel n (.int q i):=.int q i
@[simp]theorem F8y:Bel n (.pointer none):=.nilPtr
@[simp]theorem bel_ptr{a:Addr}:Bel n (.pointer (some a))↔a.block<n:=⟨fun h=>by cases h;assumption,.ptr⟩
@[simp]theorem G5a{a:Addr}{l c:Nat}:Bel n (.slice (some a) l c)↔a.block<n:=⟨fun h=>by cases h;assumption,.slice⟩
@[simp]theorem bel_agg:Bel n (.agg l.toArray)↔BelL n l:=
 ⟨fun h x hx=>by cases h with|agg h=>obtain⟨i,hi,e⟩:=List.getElem_of_mem hx;exact h i x (by simp[hi,e]),fun h=>.agg fun i x hx=>h x (List.mem_of_getElem? (by simpa using hx))⟩
theorem A0p(h:BelL n l):Bel n (.tuple l.toArray):=.tuple fun i x hx=>h x (List.mem_of_getElem? (by simpa using hx))
end bel
section ints
variable {q : IntKind} {t : TypeId} {a b : Int}
@[simp]theorem binV_add:binV P .add t (.int q a) (.int q b)=some (.int q (q.wrap (a+b))):=by simp[binV,A90]
@[simp]theorem binV_sub:binV P .sub t (.int q a) (.int q b)=some (.int q (q.wrap (a-b))):=by simp[binV,A90]
@[simp]theorem binV_mul:binV P .mul t (.int q a) (.int q b)=some (.int q (q.wrap (a*b))):=by simp[binV,A90]
@[simp]theorem binV_eql:binV P .eql t (.int q a) (.int q b)=some (.bool (decide (a=b))):=by simp[binV,A90];exact Bool.beq_eq_decide_eq _ _
@[simp]theorem binV_neq:binV P .neq t (.int q a) (.int q b)=some (.bool (!decide (a=b))):=by simp[binV,A90,bne];exact Bool.beq_eq_decide_eq _ _
@[simp]theorem binV_lss:binV P .lss t (.int q a) (.int q b)=some (.bool (a<b)):=by simp[binV,A90]
@[simp]theorem binV_leq:binV P .leq t (.int q a) (.int q b)=some (.bool (a<=b)):=by simp[binV,A90]
@[simp]theorem binV_gtr:binV P .gtr t (.int q a) (.int q b)=some (.bool (b<a)):=by simp[binV,A90]
@[simp]theorem binV_geq:binV P .geq t (.int q a) (.int q b)=some (.bool (b<=a)):=by simp[binV,A90]
@[simp]theorem binV_rem(h:b≠0):binV P .rem t (.int q a) (.int q b)=some (.int q (a.tmod b)):=by simp[binV,A90,h]
@[simp]theorem B35(h:b≠0):binV P .quo t (.int q a) (.int q b)=some (.int q (q.wrap (a.tdiv b))):=by simp[binV,A90,h]
@[simp]theorem binV_shl{q':IntKind}(h:0<=b):binV P .shl t (.int q a) (.int q' b)=some (.int q (q.wrap (a*2^(min b.toNat q.bits)))):=by
 simp[binV,B5d,Int.not_lt.2 h]
@[simp]theorem C66{q':IntKind}(h:0<=b):binV P .shr t (.int q a) (.int q' b)=some (.int q (a.fdiv (2^(min b.toNat q.bits)))):=by
 simp[binV,B5d,Int.not_lt.2 h]
end ints
@[simp]theorem E0x{a b:Nat}:((a:Int)+(b:Int)).toNat=a+b:=by omega
@[simp]theorem bits_u64:IntKind.bits .u64=64:=rfl
@[simp]theorem bits_i64:IntKind.bits .i64=64:=rfl
@[simp]theorem bits_u32:IntKind.bits .u32=32:=rfl
@[simp]theorem bits_u8:IntKind.bits .u8=8:=rfl
@[simp]theorem A65{n:Int}(h0:0<=n)(h1:n<18446744073709551616):IntKind.wrap .u64 n=n:=by
 simp only[IntKind.wrap,IntKind.bits,IntKind.signed,Bool.false_and,Bool.false_eq_true,if_false];omega
@[simp]theorem F0y{n:Int}(h0:0<=n)(h1:n<256):IntKind.wrap .u8 n=n:=by
 simp only[IntKind.wrap,IntKind.bits,IntKind.signed,Bool.false_and,Bool.false_eq_true,if_false];omega
@[simp]theorem wrap_i64{n:Int}(h0:-9223372036854775808<=n)(h1:n<9223372036854775808):IntKind.wrap .i64 n=n:=by
 show(if(true&&decide (n%2^64>=2^63))=true then n%2^64-2^64 else n%2^64)=n
 by_cases h:n%2^64>=2^63
 ·simp[h];omega
 ·simp[h];omega
@[simp]theorem i_fdiv{a b:Int}(h:0<=b):a.fdiv b=a/b:=Int.fdiv_eq_ediv_of_nonneg _ h
@[simp]theorem i_tdiv{a b:Int}(h:0<=a):a.tdiv b=a/b:=Int.tdiv_eq_ediv_of_nonneg h
@[simp]theorem i_tmod{a b:Int}(h:0<=a):a.tmod b=a%b:=Int.tmod_eq_emod_of_nonneg h
section heap
variable {x y : AObj} {b b' : Nat} {vs : List Value} {tail : Bool}
@[simp]theorem St.alloc_next:(s.alloc x).next=s.next+1:=by rw[St.alloc]
@[simp]theorem St.put_next:(s.put b x).next=s.next:=by rw[St.put]
theorem St.alloc_heap:(s.alloc x).heap b=if b=s.next then some x else s.heap b:=rfl
theorem St.put_heap:(s.put b x).heap b'=if b'=b then some x else s.heap b':=rfl
@[simp]theorem St.alloc_self:(s.alloc x).heap s.next=some x:=by simp[St.alloc_heap]
@[simp]theorem St.put_self:(s.put b x).heap b=some x:=by simp[St.put_heap]
@[simp]theorem St.alloc_at(h:s.next<=b/\b<=s.next):(s.alloc x).heap b=some x:=by rw[Nat.le_antisymm h.2 h.1,St.alloc_self]
@[simp]theorem St.alloc_old(h:b<s.next):(s.alloc x).heap b=s.heap b:=by rw[St.alloc_heap,if_neg (by omega)]
@[simp]theorem St.put_other(h:b'≠b):(s.put b x).heap b'=s.heap b':=by rw[St.put_heap,if_neg h]
@[simp]theorem St.put_put:(s.put b x).put b y=s.put b y:=by
 simp only[St.put];congr 1;funext z;by_cases h:z=b<;>simp[h]
@[simp]theorem St.alloc_put_old(h:b<s.next):(s.alloc x).put b y=(s.put b y).alloc x:=by
 simp only[St.put,St.alloc];congr 1;funext z;by_cases h1:z=b
 ·subst h1;simp;omega
 ·simp[h1]
@[simp]theorem St.alloc_put_new(h:s.next<=b/\b<=s.next):(s.alloc x).put b y=s.alloc y:=by
 have h:=Nat.le_antisymm h.2 h.1;subst h;simp only[St.put,St.alloc];congr 1;funext z;by_cases h:z=s.next<;>simp[h]
@[simp low]theorem G17{ag:Bool}{n:Nat}{a:Addr}:A04 (some (ag,n)) (.pointer (some a)) s=match s.heap a.block with
  | some (.cells vs _)=>if ag=true then(if a.off+n<=vs.length then some (.agg ((vs.drop a.off).take n).toArray)else none)else vs[a.off]?
  | _=>none:=by
 cases ag
 ·simp only[A04];split<;>simp_all
 ·simp only[A04];split<;>simp_all
theorem D1g{o n:Nat}(h:s.heap b=some (.cells vs tail)):A04 (some (false,n)) (.pointer (some ⟨b,o,none⟩)) s=vs[o]?:=by simp[A04,h]
theorem B4j{o n:Nat}(h:s.heap b=some (.cells vs tail))(hn:o+n<=vs.length):A04 (some (true,n)) (.pointer (some ⟨b,o,none⟩)) s=some (.agg ((vs.drop o).take n).toArray):=by simp[A04,h,hn]
theorem C16{o n:Nat}(h:s.heap b=some (.cells vs tail))(hd:data v=true)(hc:v.cells.size=n)(hn:o+n<=vs.length) :
  A7j (some n) (.pointer (some ⟨b,o,none⟩)) v k s=k undef (s.put b (.cells (lwr vs o v.cells.toList) tail)):=by simp[A7j,h,hd,hc,hn]
@[simp low]theorem F81{n:Nat}{a:Addr}:A7j (some n) (.pointer (some a)) v k s=match s.heap a.block with
  | some (.cells vs t)=>data v=true/\v.cells.size=n/\a.off+n<=vs.length/\ap k undef (s.put a.block (.cells (lwr vs a.off v.cells.toList) t))
  | _=>False:=rfl
end heap
structure Enc(α:Type)(w:Nat) where
 cells:α->List Value
 len:∀a,(cells a).length=w
def Enc.row{α:Type}{w:Nat}(E:Enc α w)(xs:List α):List Value:=xs.flatMap E.cells
section rows
variable {α : Type} {w : Nat} {E : Enc α w} {xs ys : List α}
@[simp]theorem Enc.cells_length{a:α}:(E.cells a).length=w:=E.len a
@[simp]theorem Enc.row_nil:E.row []=[]:=rfl
@[simp]theorem Enc.row_length:(E.row xs).length=xs.length*w:=by
 induction xs with
 | nil=>simp[Enc.row]
 | cons a t ih=>simp[Enc.row]at *;rw[ih,Nat.add_mul];omega
theorem Enc.row_cons{a:α}:E.row (a::xs)=E.cells a++E.row xs:=by simp[Enc.row]
theorem Enc.row_append:E.row (xs++ys)=E.row xs++E.row ys:=by simp[Enc.row]
theorem Enc.row_split{i:Nat}(h:i<xs.length):E.row xs=E.row (xs.take i)++(E.cells xs[i]++E.row (xs.drop (i+1))):=by
 conv=>lhs;rw[<-List.take_append_drop i xs,List.drop_eq_getElem_cons h]
 rw[Enc.row_append,Enc.row_cons]
theorem Enc.row_take{i:Nat}(h:i<=xs.length):(E.row xs).take (i*w)=E.row (xs.take i):=by
 conv=>lhs;rw[<-List.take_append_drop i xs,Enc.row_append]
 rw[List.take_append_of_le_length (by simp[Nat.min_eq_left h])]
 exact List.take_of_length_le (by simp[Nat.min_eq_left h])
theorem Enc.row_drop{i:Nat}(h:i<=xs.length):(E.row xs).drop (i*w)=E.row (xs.drop i):=by
 conv=>lhs;rw[<-List.take_append_drop i xs,Enc.row_append]
 rw[List.drop_append_of_le_length (by simp[Nat.min_eq_left h])]
 rw[List.drop_of_length_le (by simp[Nat.min_eq_left h])];rfl
def Enc.At(E:Enc α w)(s:St)(b o:Nat)(xs:List α):Prop:=∃pre post tl,s.heap b=some (.cells (pre++(E.row xs++post)) tl)/\pre.length=o
theorem Enc.At.agg{s:St}{b o i:Nat}(h:E.At s b o xs)(hi:i<xs.length):A04 (some (true,w)) (.pointer (some ⟨b,o+i*w,none⟩)) s=some (.agg (E.cells xs[i]).toArray):=by
 obtain⟨pre,post,tl,hb,rfl⟩:=h;have hm:i*w+w<=xs.length*w:=by rw[<-Nat.succ_mul];exact Nat.mul_le_mul_right w hi
 rw[B4j hb (by simp;omega)]
 rw[Enc.row_split hi];have e1:pre.length+i*w=(pre++E.row (xs.take i)).length:=by simp[Nat.min_eq_left (Nat.le_of_lt hi)]
 rw[e1,List.append_assoc,<-List.append_assoc pre,List.drop_left,List.append_assoc,List.take_append_of_le_length (by simp)]
 rw[List.take_of_length_le (by simp)]
theorem Enc.At.fld{s:St}{b o i k n:Nat}(h:E.At s b o xs)(hi:i<xs.length)(hk:k<w):A04 (some (false,n)) (.pointer (some ⟨b,o+i*w+k,none⟩)) s=(E.cells xs[i])[k]?:=by
 obtain⟨pre,post,tl,hb,rfl⟩:=h;rw[D1g hb,Enc.row_split hi];have e1:pre.length+i*w=(pre++E.row (xs.take i)).length:=by simp[Nat.min_eq_left (Nat.le_of_lt hi)]
 rw[e1,List.append_assoc,<-List.append_assoc pre,List.getElem?_append_right (by omega),Nat.add_sub_cancel_left,List.append_assoc,List.getElem?_append_left (by simp[hk])]
theorem Enc.At.same{s':St}{b o:Nat}(h:E.At s b o xs)(e:s'.heap b=s.heap b):E.At s' b o xs:=by
 obtain⟨pre,post,tl,hb,ho⟩:=h;exact⟨pre,post,tl,e.trans hb,ho⟩
inductive Enc.Sl (E:Enc α w) (s:St):Value->List α->Prop
 | nil:E.Sl s (.slice none 0 0) []
 | row {b o c:Nat} {xs:List α}:E.At s b o xs->E.Sl s (.slice (some ⟨b,o,none⟩) xs.length c) xs
 | empty {a:Addr} {c:Nat}:E.Sl s (.slice (some a) 0 c) []
theorem Enc.Sl.ne{s:St}{v:Value}(h:E.Sl s v xs)(hx:xs≠[]):∃b o c,v=.slice (some ⟨b,o,none⟩) xs.length c/\E.At s b o xs:=by
 cases h with
 | nil=>exact absurd rfl hx
 | row h=>exact⟨_,_,_,rfl,h⟩
 | empty=>exact absurd rfl hx
theorem Enc.Sl.len{P:Program}{s s':St}{v:Value}{t e:TypeId}(h:E.Sl s v xs)(ht:P.underlying t=some (.slice e)):lenR P t v s'=some (.int .i64 xs.length):=by
 cases h<;>simp[lenR,lenV,ht]
def D12(w n c tot:Nat):Prop:=c=top+w\/c<top/\n<=c/\c*w<=tot
inductive Enc.Own (E:Enc α w) (s:St):Value->Option Nat->List α->Prop
 | nil:E.Own s (.slice none 0 0) none []
 | row {b c:Nat} {xs:List α} {post:List Value} {tl:Bool}:b<s.next->s.heap b=some (.cells (E.row xs++post) tl)->D12 w xs.length c (xs.length*w+post.length)->E.Own s (.slice (some ⟨b,0,none⟩) xs.length c) (some b) xs
 | none_ {b o:Nat}:b<s.next->E.Own s (.slice (some ⟨b,o,none⟩) 0 0) none []
theorem Enc.Own.sl{s:St}{v:Value}{ρ:Option Nat}(h:E.Own s v ρ xs):E.Sl s v xs:=by
 cases h with
 | nil=>exact .nil
 | none_ _=>exact .empty
 | row _ hb _=>exact .row ⟨[],_,_,hb,rfl⟩
theorem Enc.Own.same{s s':St}{v:Value}{ρ:Option Nat}(h:E.Own s v ρ xs)(hn:s.next<=s'.next)(e:∀b,ρ=some b->s'.heap b=s.heap b):E.Own s' v ρ xs:=by
 cases h with
 | nil=>exact .nil
 | none_ h=>exact .none_ (Nat.lt_of_lt_of_le h hn)
 | row hlt hb hc=>exact .row (Nat.lt_of_lt_of_le hlt hn) ((e _ rfl).trans hb) hc
theorem Enc.Own.lt{s:St}{v:Value}{b:Nat}(h:E.Own s v (some b) xs):b<s.next:=by
 cases h;assumption
def Grew(s:St)(ρ ρ':Option Nat):Prop:=ρ'=ρ\/∃b,ρ'=some b/\s.next<=b
def Long(s:St)(ρ:Option Nat):Prop:=∀b,ρ=some b->∃vs,s.heap b=some (.cells vs true)
theorem Enc.Own.append{k:Post}{s:St}{v:Value}{ρ:Option Nat}{bytes:Nat}(h:E.Own s v ρ xs)(hw:0<w)(h1:(xs.length+ys.length)*bytes<=140737488355328)(h2:xs.length+ys.length<=140737488355328)
  (hk:∀v' s' ρ',E.Own s' v' ρ' (xs++ys)->s.next<=s'.next->Grew s ρ ρ'->(∀b,b<s.next->some b≠ρ->s'.heap b=s.heap b)->(Long s ρ->Long s' ρ')->k v' s') :
  appW w bytes v (some (ys.length,E.row ys)) k s:=by
 by_cases hy:ys=[]
 ·subst hy;have:=hk v s ρ (by simpa using h) (Nat.le_refl _) (.inl rfl) (fun _ _ _=>rfl) id
  cases h<;>simpa[appW]using this
 have hm:ys.length≠0:=by simpa using hy
 have htop:top=18446744073709551616:=rfl;cases h with
 | nil=>
  simp only[appW,if_neg hm];refine⟨by simpa using h1,by simpa using h2,hk _ _ (some s.next) ?_ (by simp) (.inr ⟨_,rfl,Nat.le_refl _⟩) (fun b hb _=>St.alloc_old hb) (fun _ b hb=>by cases hb;exact⟨_,St.alloc_self⟩)⟩
  have:=Enc.Own.row (E:=E) (s:=s.alloc (.cells (E.row ys) true)) (b:=s.next) (c:=top+w) (xs:=ys) (post:=[]) (tl:=true) (by simp) (by simp) (.inl rfl)
  simpa using this
 | none_ ha=>
  simp only[appW,if_neg hm,Nat.zero_add];refine⟨by simpa using h1,by simpa using h2,?_⟩
  rw[if_pos ⟨trivial,trivial⟩];refine hk _ _ (some s.next) ?_ (by simp) (.inr ⟨_,rfl,Nat.le_refl _⟩) (fun b hb _=>St.alloc_old hb) (fun _ b hb=>by cases hb;exact⟨_,St.alloc_self⟩)
  have:=Enc.Own.row (E:=E) (s:=s.alloc (.cells (E.row ys) true)) (b:=s.next) (c:=top+w) (xs:=ys) (post:=[]) (tl:=true) (by simp) (by simp) (.inl rfl)
  simpa using this
 | row hlt hb hc=>
  rename_i b c post tl;have hg:k (.slice (some ⟨s.next,0,none⟩) (xs.length+ys.length) (top+w)) (s.alloc (.cells (E.row xs++E.row ys) true)):=by
   refine hk _ _ (some s.next) ?_ (by simp) (.inr ⟨_,rfl,Nat.le_refl _⟩) (fun b hb _=>St.alloc_old hb) (fun _ b hb=>by cases hb;exact⟨_,St.alloc_self⟩)
   have:=Enc.Own.row (E:=E) (s:=s.alloc (.cells (E.row xs++E.row ys) true)) (b:=s.next) (c:=top+w) (xs:=xs++ys) (post:=[]) (tl:=true) (by simp) (by simp[Enc.row_append]) (.inl rfl)
   simpa using this
  have hp:D12 w (xs.length+ys.length) c ((xs.length+ys.length)*w+(post.length-ys.length*w))->k (.slice (some ⟨b,0,none⟩) (xs.length+ys.length) c) (s.put b (.cells (lwr (E.row xs++post) (xs.length*w) (E.row ys)) tl)):=fun hc'=>by
   refine hk _ _ (some b) ?_ (by simp) (.inl rfl) (fun b' hb' hne=>St.put_other (fun e=>hne (by rw[e]))) (fun h b' hb'=>by
    cases hb';obtain⟨vs,h⟩:=h _ rfl;rw[hb]at h;simp at h;exact⟨_,by rw[St.put_self,h.2]⟩)
   have e1:lwr (E.row xs++post) (xs.length*w) (E.row ys)=E.row (xs++ys)++post.drop (ys.length*w):=by
    have:xs.length*w=(E.row xs).length:=by simp
    simp only[lwr,Enc.row_append,Enc.row_length];rw[this,List.take_left,List.drop_append];simp
   have:=Enc.Own.row (E:=E) (s:=s.put b (.cells (lwr (E.row xs++post) (xs.length*w) (E.row ys)) tl)) (b:=b) (c:=c) (xs:=xs++ys) (post:=post.drop (ys.length*w)) (tl:=tl) (by simpa using hlt) (by rw[St.put_self,e1]) (by simpa using hc')
   simpa using this
  have hmul:(xs.length+ys.length)*w=xs.length*w+ys.length*w:=Nat.add_mul _ _ _;have e2:((E.row xs++post).drop 0).take (xs.length*w)=E.row xs:=by
   rw[List.drop_zero,List.take_append_of_le_length (by simp)];exact List.take_of_length_le (by simp)
  have hg0:xs.length=0/\c=0->B30 w ys.length (E.row ys) k s:=fun⟨e0,_⟩=>by
   have:xs=[]:=List.eq_nil_of_length_eq_zero e0;subst this;simpa[B30]using hg
  simp only[appW,if_neg hm,hb,Nat.zero_add,e2];refine⟨h1,h2,?_⟩;by_cases h00:xs.length=0/\c=0
  ·rw[if_pos h00];exact hg0 h00
  rw[if_neg h00];simp only[B30];refine⟨by simp,?_⟩
  rcases hc with hc|⟨hc1,hc2,hc3⟩
  ·rw[if_pos hc];split
   ·exact hp (.inl hc)
   ·exact⟨hg,fun _=>hp (.inl hc)⟩
  ·rw[if_neg (by omega)]
   refine⟨hc1,?_⟩;split
   ·rename_i hle;have hle':(xs.length+ys.length)*w<=c*w:=Nat.mul_le_mul_right w hle;refine⟨by simp;omega,hp (.inr ⟨hc1,hle,?_⟩)⟩
    omega
   ·exact hg
theorem Enc.Sl.news{P:Program}{t:TypeId}{bytes:Nat}{zero:List Value}{v:Value}{s:St}(h:E.Sl s v xs)(ht:A5r P t=some false):B31 P t w bytes zero v s=some (xs.length,E.row xs):=by
 cases h with
 | nil=>simp[B31,ht,A0z]
 | empty=>simp[B31,ht,A0z]
 | row h=>
  obtain⟨pre,post,tl,hb,rfl⟩:=h;by_cases hx:xs=[]
  ·subst hx;simp[B31,ht,A0z]
  ·simp[B31,ht,A0z,hb,hx]
end rows
@[simp]theorem F86{d:Option Nat}:A43? none d=d:=rfl
@[simp]theorem B2h{q:IntKind}{i:Int}{d:Option Nat}(h:0<=i):A43? (some (.int q i)) d=some i.toNat:=by simp[A43?,B0w?,h]
def A2a(z c l:Nat):Nat:=if c=top+z then c else c-l
@[simp]theorem E5f{z c:Nat}:A2a z c 0=c:=by simp[A2a]
theorem E2t{P:Program}{t e:TypeId}{z:Nat}{lo hi mx:Option Value}{s:St}(ht:P.underlying t=some (.slice e))(hz:A08 P e=some z)(hl:A43? lo (some 0)=some 0)(hh:A43? hi (some 0)=some 0)(hm:A43? mx (some 0)=some 0)(hx:mx.isSome=true->hi.isSome=true) :
  slcV P t (.slice none 0 0) lo hi mx s=some (.slice none 0 0):=by
 simp only[slcV,ht,hz,hl,hh,hm];exact if_pos ⟨rfl,hx⟩
theorem E2b{P:Program}{t e:TypeId}{z n c l h:Nat}{a:Addr}{lo hi:Option Value}{s:St}(ht:P.underlying t=some (.slice e))(hz:A08 P e=some z)(hl:A43? lo (some 0)=some l)(hh:A43? hi (some n)=some h)(h1:l<=h)(h2:h<=n)(hc:c=top+z\/c<top/\n<=c) :
  slcV P t (.slice (some a) n c) lo hi none s=some (.slice (some ⟨a.block,a.off+l*z,none⟩) (h-l) (A2a z c l)):=by
 simp only[slcV,ht,hz,hl,hh,A2a];rcases hc with hc|hc
 ·simp[hc,h1,h2]
 ·have:¬c=top+z:=by omega
  simp[this,hc.1,h1];omega
theorem C8q{P:Program}{t e:TypeId}{z n c l h m:Nat}{a:Addr}{lo hi:Option Value}{mx:Value}{s:St}(ht:P.underlying t=some (.slice e))(hz:A08 P e=some z)(hl:A43? lo (some 0)=some l)(hh:A43? hi (some n)=some h)(hm:∀d,A43? (some mx) d=some m)(hi':hi.isSome=true)(h1:l<=h)(h2:h<=m)(h3:m<=n)(hc:c=top+z\/c<top/\n<=c) :
  slcV P t (.slice (some a) n c) lo hi (some mx) s=some (.slice (some ⟨a.block,a.off+l*z,none⟩) (h-l) (m-l)):=by
 simp only[slcV,ht,hz,hl,hh,hm];rcases hc with hc|hc
 ·simp[hc,hi',h1,h2,h3]
 ·have:¬c=top+z:=by omega
  simp[this,hc.1,hi',h1,h2];omega
def bnd(v:Option Value)(d:Nat):Nat:=(A43? v (some d)).getD 0
def okb(v:Option Value):Prop:=(A43? v (some 0)).isSome=true
@[simp]theorem A9v{d:Nat}:bnd none d=d:=rfl
@[simp]theorem okb_none:okb none:=rfl
@[simp]theorem A9s{q:IntKind}{i:Int}{d:Nat}:bnd (some (.int q i)) d=i.toNat:=by
 by_cases h:0<=i
 ·simp[bnd,A43?,B0w?,h]
 ·simp[bnd,A43?,B0w?,h];omega
@[simp]theorem okb_some{q:IntKind}{i:Int}:okb (some (.int q i))↔0<=i:=by
 by_cases h:0<=i<;>simp[okb,A43?,B0w?,h]
theorem okb.eq{v:Option Value}{d:Nat}(h:okb v):A43? v (some d)=some (bnd v d):=by
 cases v with
 | none=>rfl
 | some v=>
  simp only[okb,A43?,bnd]at *;cases hv:B0w? v with
  | none=>simp[hv]at h
  | some n=>simp only[hv]at *;split<;>simp_all
theorem B03{P:Program}{t e:TypeId}{z n c:Nat}{a:Addr}{lo hi:Option Value}{s:St}(ht:P.underlying t=some (.slice e))(hz:A08 P e=some z)
  (h:okb lo/\okb hi/\bnd lo 0<=bnd hi n/\bnd hi n<=n/\(c=top+z\/c<top/\n<=c)) :
  slcV P t (.slice (some a) n c) lo hi none s=some (.slice (some ⟨a.block,a.off+bnd lo 0*z,none⟩) (bnd hi n-bnd lo 0) (A2a z c (bnd lo 0))):=
 E2b ht hz h.1.eq h.2.1.eq h.2.2.1 h.2.2.2.1 h.2.2.2.2
theorem A9m{P:Program}{t e:TypeId}{z n c:Nat}{q':IntKind}{lo:Option Value}{h:Int}{a:Addr}{vs:List Value}{tl:Bool}{s:St}(ht:P.underlying t=some (.slice e))(hz:A08 P e=some z)(hb:s.heap a.block=some (.cells vs tl))(h0:okb lo)(hh:0<=h)(h1:bnd lo 0<=h.toNat)(h2:a.off+h.toNat*z<=vs.length)(hc:c=top+z\/c<top/\h<=c) :
  slcV P t (.slice (some a) n c) lo (some (.int q' h)) none s=some (.slice (some ⟨a.block,a.off+bnd lo 0*z,none⟩) (h.toNat-bnd lo 0) (A2a z c (bnd lo 0))):=by
 simp only[slcV,ht,hz,h0.eq,B2h hh,A2a,hb];rcases hc with hc|hc
 ·rw[if_pos hc,if_pos hc,if_pos ⟨h1,.inr (by simpa using h2)⟩]
 ·have:¬c=top+z:=by omega
  rw[if_neg this,if_pos hc.1,if_neg this];simp;omega
theorem B1s{P:Program}{t e:TypeId}{z n c:Nat}{a:Addr}{lo:Option Value}{q q':IntKind}{hi mx:Int}{s:St}(ht:P.underlying t=some (.slice e))(hz:A08 P e=some z)
  (h:okb lo/\0<=hi/\bnd lo 0<=hi.toNat/\hi<=mx/\mx.toNat<=n/\(c=top+z\/c<top/\n<=c)) :
  slcV P t (.slice (some a) n c) lo (some (.int q hi)) (some (.int q' mx)) s=some (.slice (some ⟨a.block,a.off+bnd lo 0*z,none⟩) (hi.toNat-bnd lo 0) (mx.toNat-bnd lo 0)):=
 C8q ht hz h.1.eq (B2h h.2.1) (fun d=>B2h (by omega)) rfl h.2.2.1 (by omega) h.2.2.2.2.1 h.2.2.2.2.2
theorem B86{P:Program}{t e:TypeId}{z:Nat}{lo hi mx:Option Value}{s:St}(ht:P.underlying t=some (.slice e))(hz:A08 P e=some z)
  (h:okb lo/\okb hi/\okb mx/\bnd lo 0<=0/\bnd hi 0<=0/\bnd mx 0<=0/\(mx.isSome=true->hi.isSome=true)):slcV P t (.slice none 0 0) lo hi mx s=some (.slice none 0 0):=
 E2t ht hz (by rw[h.1.eq,Nat.le_zero.1 h.2.2.2.1]) (by rw[h.2.1.eq,Nat.le_zero.1 h.2.2.2.2.1]) (by rw[h.2.2.1.eq,Nat.le_zero.1 h.2.2.2.2.2.1]) h.2.2.2.2.2.2
section rows
variable {α : Type} {w : Nat} {E : Enc α w} {xs ys : List α}
theorem D12.two{n c tot:Nat}(h:D12 w n c tot):c=top+w\/c<top/\n<=c:=h.imp id fun h=>⟨h.1,h.2.1⟩
theorem B37{s:St}{b:Nat}{x:AObj}(h:s.heap b=some x):s.put b x=s:=by
 cases s with|mk hp nx=>
 simp only[St.put,St.mk.injEq,and_true];funext z;by_cases hz:z=b
 ·subst hz;simpa using h.symm
 ·simp[hz]
theorem B81{k:Post}{s:St}{b c bytes l m:Nat}{vs cs:List Value}{tl:Bool}(hb:s.heap b=some (.cells vs tl))(h1:(l+m)*bytes<=140737488355328)(h2:l+m<=140737488355328)(hv:(l+m)*w<=vs.length)(hcs:cs.length=m*w)
  (hc:c=top+w\/c<top/\l+m<=c) (hk:k (.slice (some ⟨b,0,none⟩) (l+m) c) (s.put b (.cells (lwr vs (l*w) cs) tl))):appW w bytes (.slice (some ⟨b,0,none⟩) l c) (some (m,cs)) k s:=by
 have hmul:(l+m)*w=l*w+m*w:=Nat.add_mul _ _ _;by_cases hm:m=0
 ·subst hm;have h0:cs=[]:=by simpa using hcs
  subst h0;have:lwr vs (l*w) []=vs:=by simp[lwr]
  rw[this,B37 hb]at hk;simpa[appW]using hk
 ·simp only[appW,if_neg hm,hb,Nat.zero_add];have htop:top=18446744073709551616:=rfl;refine⟨h1,h2,?_⟩;rw[if_neg (by omega)]
  refine⟨by omega,?_⟩
  rcases hc with hc|hc
  ·rw[if_pos hc,if_pos hv];exact hk
  ·rw[if_neg (by omega),if_pos hc.2]
   exact⟨hc.1,hv,hk⟩
theorem A9f{pre mid post xs:List Value}(h:mid.length=xs.length):lwr (pre++(mid++post)) pre.length xs=pre++(xs++post):=by
 simp only[lwr,List.take_left];rw[<-List.append_assoc pre mid post,<-h];have:pre.length+mid.length=(pre++mid).length:=by simp
 rw[this,List.drop_left,List.append_assoc]
@[simp]theorem D4c{P:Program}{e u:TypeId}{z b:Nat}{zero:List Value}{x y:Value}{k:Post}{s:St}:apdW P (some (e,z,b,zero)) u x y k s=appW z b x (B31 P u z b zero y s) k s:=rfl
@[simp]theorem G65{e:TypeId}{z b:Nat}{zero:List Value}{x y:Value}{k:Post}{s:St}:cpyW (some (e,z,b,zero)) x y k s=B45 z x y k s:=rfl
theorem A9a{P:Program}{t e:TypeId}{z bytes l c o:Nat}{zero vs:List Value}{b:Nat}{tl:Bool}{k:Post}{s:St}(ht:A0e P t=some (e,z,bytes,zero))(h0:l≠0)(hb:s.heap b=some (.cells vs tl))(hv:o+l*z<=vs.length)
  (hk:k undef (s.put b (.cells (lwr vs o (A2q zero (l*z))) tl))):A6d P t (.slice (some ⟨b,o,none⟩) l c) k s:=by
 simp only[A6d,ht,if_neg h0,hb];exact⟨hv,hk⟩
@[simp]theorem E5z{z:List Value}{n:Nat}:(A2q z n).length=n:=by simp[A2q]
theorem Enc.At.drop{s:St}{b o j:Nat}(h:E.At s b o xs)(hj:j<=xs.length):E.At s b (o+j*w) (xs.drop j):=by
 obtain⟨pre,post,tl,hb,ho⟩:=h;refine⟨pre++E.row (xs.take j),post,tl,?_,by simp[ho,Nat.min_eq_left hj]⟩
 rw[hb]
 conv=>lhs;rw[<-List.take_append_drop j xs,Enc.row_append]
 simp
theorem Enc.At.take{s:St}{b o j:Nat}(h:E.At s b o xs):E.At s b o (xs.take j):=by
 obtain⟨pre,post,tl,hb,ho⟩:=h;refine⟨pre,E.row (xs.drop j)++post,tl,?_,ho⟩;rw[hb]
 conv=>lhs;rw[<-List.take_append_drop j xs,Enc.row_append]
 simp
theorem A86{P:Program}{t:TypeId}{z bytes:Nat}{zero:List Value}{q:IntKind}{n:Int}{s:St}(ht:A5r P t=some true)(h:0<=n/\n*bytes<=140737488355328/\n<=140737488355328):B31 P t z bytes zero (.int q n) s=some (n.toNat,A2q zero (n.toNat*z)):=by
 simp[B31,ht,h]
theorem B7z{z la lb ca cb b b2 o o2:Nat}{vs us:List Value}{ta tb:Bool}{k:Post}{s:St}(hne:b≠b2)(h1:s.heap b=some (.cells vs ta))(h2:s.heap b2=some (.cells us tb))(hv:o+la*z<=vs.length)(hu:o2+lb*z<=us.length)(hk:k (.bool false) s)(ht:(ta||tb)=true:=by simp) :
  ovlW (some z) [.slice (some ⟨b,o,none⟩) la ca,.slice (some ⟨b2,o2,none⟩) lb cb] k s:=by
 simp only[ovlW,h1,h2,if_neg hne];split
 ·exact hk
 ·exact⟨ht,hv,hu,hk⟩
theorem C11{k:Post}{s:St}{b c bytes l m:Nat}{vs cs:List Value}{tl:Bool}(hb:s.heap b=some (.cells vs tl))(h0:m≠0)(h1:(l+m)*bytes<=140737488355328)(h2:l+m<=140737488355328)(hv:l*w<=vs.length)
  (hc:c=top+w/\tl=false/\vs.length<(l+m)*w\/c<top/\c<l+m) (hk:k (.slice (some ⟨s.next,0,none⟩) (l+m) (top+w)) (s.alloc (.cells (vs.take (l*w)++cs) true))):appW w bytes (.slice (some ⟨b,0,none⟩) l c) (some (m,cs)) k s:=by
 simp only[appW,if_neg h0,hb,Nat.zero_add,B30,List.drop_zero];refine⟨h1,h2,?_⟩;by_cases h00:l=0/\c=0
 ·rw[if_pos h00];obtain⟨rfl,rfl⟩:=h00;simpa using hk
 rw[if_neg h00];refine⟨hv,?_⟩;rcases hc with hc|hc
 ·rw[if_pos hc.1,if_neg (by omega)]
  exact⟨hk,fun h=>by simp[hc.2.1]at h⟩
 ·have htop:top=18446744073709551616:=rfl;rw[if_neg (by omega),if_neg (by omega)]
  exact⟨hc.1,hk⟩
theorem C7a{P:Program}{t e:TypeId}{bytes:Nat}{zero:List Value}{k:Post}{s:St}{b c:Nat}{post:List Value}{tl:Bool}(ht:A0e P t=some (e,w,bytes,zero))(hw:0<w)(hb:s.heap b=some (.cells (E.row xs++post) tl))(hc:D12 w xs.length c (xs.length*w+post.length))
  (hk:∀n post' tl' s',s'.heap b=some (.cells (E.row xs++post') tl')->s'.next=s.next->(∀b',b'≠b->s'.heap b'=s.heap b')->xs.length<=n->n<18446744073709551616->(n<=9223372036854775807\/n=c)->
   (c=top+w/\tl'=false/\xs.length*w+post'.length=n*w\/c<top/\n=c/\n*w<=xs.length*w+post'.length)->k (.int .i64 n) s') :
  capW P t (.slice (some ⟨b,0,none⟩) xs.length c) k s:=by
 have htop:top=18446744073709551616:=rfl;simp only[capW,ht];rcases hc with hc|⟨hc1,hc2,hc3⟩
 ·rw[if_neg (by omega)]
  refine⟨hc,?_⟩;simp only[hb,Nat.zero_add];intro n h1 h2 h3 h4;refine hk n (post++List.replicate (n*w-(E.row xs++post).length) undef) false _ ?_ rfl (fun b' hb'=>St.put_other hb') h1 (by omega) (.inl h2) (.inl ⟨hc,rfl,?_⟩)
  ·rw[St.put_self,List.append_assoc]
  ·simp at h3 ⊢;omega
 ·rw[if_pos hc1];exact hk c post tl s hb rfl (fun _ _=>rfl) hc2 (by omega) (.inr rfl) (.inr ⟨hc1,rfl,hc3⟩)
theorem D70{k:Post}{s:St}{b b2 o o2 l m c c2 z:Nat}{vs us:List Value}{tl tl2:Bool}(hb:s.heap b=some (.cells vs tl))(hb2:s.heap b2=some (.cells us tl2))(h2:o2+m*z<=us.length)(h1:o+Nat.min m l*z<=vs.length)
  (hk:k (.int .i64 (Nat.min m l)) (s.put b (.cells (lwr vs o ((us.drop o2).take (Nat.min m l*z))) tl))):B45 z (.slice (some ⟨b,o,none⟩) l c) (.slice (some ⟨b2,o2,none⟩) m c2) k s:=by
 by_cases h0:Nat.min m l=0
 ·rw[h0]at hk;have e:lwr vs o ((us.drop o2).take (0*z))=vs:=by simp[lwr]
  rw[e,B37 hb]at hk;by_cases hm:m=0
  ·subst hm;simpa[B45,A0z]using hk
  ·simpa[B45,A0z,hm,hb2,h2,h0]using hk
 ·have hm:m≠0:=fun e=>h0 (by rw[e];exact Nat.zero_min _)
  have hmin:Nat.min m l<=m:=Nat.min_le_left _ _;have hmul:Nat.min m l*z<=m*z:=Nat.mul_le_mul_right z hmin;simp only[B45,A0z,if_neg hm,hb2,if_pos h2,Option.map_some,if_neg h0,hb];refine⟨h1,?_⟩
  rwa [List.take_take,Nat.min_eq_left hmul]
theorem Enc.Own.ne{s:St}{v:Value}{ρ:Option Nat}(h:E.Own s v ρ xs)(hx:xs≠[]):∃b c post tl,v=.slice (some ⟨b,0,none⟩) xs.length c/\ρ=some b/\b<s.next/\s.heap b=some (.cells (E.row xs++post) tl)/\D12 w xs.length c (xs.length*w+post.length):=by
 cases h with
 | nil=>exact absurd rfl hx
 | none_ _=>exact absurd rfl hx
 | row h1 h2 h3=>exact⟨_,_,_,_,rfl,rfl,h1,h2,h3⟩
end rows
@[simp]theorem G3g{b:Bool}:data (.bool b)=true:=rfl
@[simp]theorem data_int{q:IntKind}{n:Int}:data (.int q n)=true:=rfl
@[simp]theorem data_str{b:ByteArray}:data (.string b)=true:=rfl
@[simp]theorem data_ptr{a:Option Addr}:data (.pointer a)=true:=rfl
@[simp]theorem F9q{a:Option Addr}{l c:Nat}:data (.slice a l c)=true:=rfl
@[simp]theorem data_map{a:Option Nat}:data (.map a)=true:=rfl
@[simp]theorem E5h:data .nilFunc=true:=rfl
@[simp]theorem G9m{f:Fn}{a b:Array Value}:data (.func f a b)=true:=rfl
@[simp]theorem E4q:data .nilIface=true:=rfl
@[simp]theorem F9g{t:TypeId}{x:Value}:data (.iface t x)=true:=rfl
@[simp]theorem data_agg{cs:Array Value}:data (.agg cs)=true:=rfl
theorem C1q(h:data v=true):boxN v=some (.cells v.cells.toList false,.ptr):=by simp[boxN,h]
@[simp]theorem G59{b:Bool}:boxN (.bool b)=some (.cells [.bool b] false,.ptr):=rfl
@[simp]theorem boxN_int{q:IntKind}{n:Int}:boxN (.int q n)=some (.cells [.int q n] false,.ptr):=rfl
@[simp]theorem boxN_str{b:ByteArray}:boxN (.string b)=some (.cells [.string b] false,.ptr):=rfl
@[simp]theorem boxN_ptr{a:Option Addr}:boxN (.pointer a)=some (.cells [.pointer a] false,.ptr):=rfl
@[simp]theorem F9j{a:Option Addr}{l c:Nat}:boxN (.slice a l c)=some (.cells [.slice a l c] false,.ptr):=rfl
@[simp]theorem boxN_map{a:Option Nat}:boxN (.map a)=some (.cells [.map a] false,.ptr):=rfl
@[simp]theorem E8g:boxN .nilFunc=some (.cells [.nilFunc] false,.ptr):=rfl
@[simp]theorem G2u{f:Fn}{a b:Array Value}:boxN (.func f a b)=some (.cells [.func f a b] false,.ptr):=rfl
@[simp]theorem E4y:boxN .nilIface=some (.cells [.nilIface] false,.ptr):=rfl
@[simp]theorem G1f{t:TypeId}{x:Value}:boxN (.iface t x)=some (.cells [.iface t x] false,.ptr):=rfl
@[simp]theorem boxN_agg{cs:List Value}:boxN (.agg cs.toArray)=some (.cells cs false,.ptr):=rfl
@[simp]theorem E9c{l n:Nat}{ag:Bool}{a:Addr}{q:IntKind}{j:Int}(h0:0<=j)(h1:j<l):A3g (some (some l,ag,n)) (.pointer (some a)) (.int q j)=some (.pointer (some ⟨a.block,a.off+j.toNat*n,none⟩)):=by
 simp[A3g,h0,h1]
@[simp]theorem B0l{l c n:Nat}{ag:Bool}{a:Addr}{q:IntKind}{j:Int}(h0:0<=j)(h1:j<l):A3g (some (none,ag,n)) (.slice (some a) l c) (.int q j)=some (.pointer (some ⟨a.block,a.off+j.toNat*n,none⟩)):=by
 simp[A3g,h0,h1]
@[simp]theorem F89{b:Bool}:Value.cells (.bool b)=#[.bool b]:=rfl
@[simp]theorem G1z{q:IntKind}{n:Int}:Value.cells (.int q n)=#[.int q n]:=rfl
@[simp]theorem G4i{b:ByteArray}:Value.cells (.string b)=#[.string b]:=rfl
@[simp]theorem G4q{a:Option Addr}:Value.cells (.pointer a)=#[.pointer a]:=rfl
@[simp]theorem F2i{a:Option Addr}{l c:Nat}:Value.cells (.slice a l c)=#[.slice a l c]:=rfl
@[simp]theorem G7n{a:Option Nat}:Value.cells (.map a)=#[.map a]:=rfl
@[simp]theorem E1f:Value.cells .nilFunc=#[.nilFunc]:=rfl
@[simp]theorem G0g{f:Fn}{a b:Array Value}:Value.cells (.func f a b)=#[.func f a b]:=rfl
@[simp]theorem E0s:Value.cells .nilIface=#[.nilIface]:=rfl
@[simp]theorem F8h{t:TypeId}{x:Value}:Value.cells (.iface t x)=#[.iface t x]:=rfl
@[simp]theorem G6r{cs:Array Value}:Value.cells (.agg cs)=cs:=rfl
end
end Go.Zz
