import Derived.Test.YtnghaapdoanabaaGreatDoorA
import Derived.Laws.MakeOwn
set_option linter.all false
namespace Go.Zz
open Go
abbrev Post:=Value->St->Prop
abbrev A33:=FuncId->List Value->Post->St->Prop
def data:Value->Bool
 | .tuple _=>false
 | .chan _=>false
 | _=>true
def plain:Value->Bool
 | .bool _|.int _ _|.float _ _|.string _|.pointer none|.slice none 0 0|.map none|.nilFunc|.nilIface=>true
 | .func (.func _) a b=>a.size==0&&b.size==0
 | _=>false
def const:Value->Value
 | .agg cs=>if cs.all plain then .agg cs else undef
 | .tuple _=>undef
 | v=>if plain v then v else undef
def opd(A:Nat->Value):Operand->Value
 | .tmp t=>A t
 | .const v=>const v
 | .global g=>if Nat.blt g 1000 then .pointer (some ⟨g,0,none⟩)else undef
 | .func f=>.func (.func f) #[] #[]
def A1s(o:Option Value)(k:Post)(s:St):Prop:=match o with
 | some v=>k v s
 | none=>False
section types
variable (P : Program)
def A08(t:TypeId):Option Nat:=(P.info? t).map (·.size)
def tAgg(t:TypeId):Option (Bool×Nat):=match P.underlying t,P.info? t with
 | some (.struct _),some i=>some (true,i.size)
 | some (.array _ _),some i=>some (true,i.size)
 | some _,some i=>some (false,i.size)
 | _,_=>none
def A2r(t:TypeId):Option (List Value):=match(P.info? t).bind (·.zero)with
 | some z=>if data z&&z.cells.all plain then some z.cells.toList else none
 | none=>none
def D3p(t:TypeId):Option Value:=match(P.info? t).bind (·.zero)with
 | some z=>if data z&&z.cells.all plain then some z else none
 | none=>none
def A0q(t:TypeId)(f:Nat):Option (Nat×Bool×Nat):=match P.underlying t with
 | some (.struct fs)=>match fs[f]? with
  | some fd=>match tAgg P fd.type with
   | some (ag,n)=>if n=0 then none else some (fd.offset,ag,n)
   | none=>none
  | none=>none
 | _=>none
def A46(t:TypeId):Option (Option Nat×Bool×Nat):=match P.underlying t with
 | some (.slice e)=>(tAgg P e).map fun x=>(none,x.1,x.2)
 | some (.array n e)=>(tAgg P e).map fun x=>(some n,x.1,x.2)
 | _=>none
def A0e(t:TypeId):Option (TypeId×Nat×Nat×List Value):=match P.underlying t with
 | some (.slice e)=>match P.info? e,A2r P e with
  | some i,some z=>if z.length=i.size/\0<i.size then some (e,i.size,i.bytes,z)else none
  | _,_=>none
 | _=>none
def tInt(t:TypeId):Option IntKind:=match P.underlying t with
 | some (.int k)=>some k
 | _=>none
def B5a(t:TypeId):Bool:=match P.underlying t with
 | some .string=>true
 | _=>false
def A22(t:TypeId):Bool:=match P.underlying t with
 | some (.map _ _)=>true
 | _=>false
def tMap(t:TypeId):Option (TypeDesc×Value):=match P.underlying t with
 | some (.map k e)=>match P.underlying k,D3p P e with
  | some (.int q),some z=>some (.int q,z)
  | some .string,some z=>some (.string,z)
  | some .bool,some z=>some (.bool,z)
  | _,_=>none
 | _=>none
def A48(t:TypeId):Bool:=match P.underlying t with
 | some (.interface _)=>false
 | some _=>true
 | none=>false
def tok0:Nat:=1000000000
def tok(b:Nat):FuncId:=tok0+b
def A3s(f:FuncId):Bool:=match P.funcs[f]? with
 | some fn => fn.name != "runtime.NumGoroutine" && fn.body.isSome && Nat.blt f tok0
 | none=>false
def C5p(t:TypeId)(name:String):Option FuncId:=match(P.info? t).bind fun i=>i.methods.find? (·.name==name)with
 | some m=>match m.func,P.underlying t with
  | some (f,true),some (.pointer _)=>if m.path.isEmpty then some f else none
  | some (f,false),some (.pointer _)=>none
  | some (f,false),some (.interface _)=>none
  | some (f,false),some _=>if m.path.isEmpty then some f else none
  | _,_=>none
 | none=>none
end types
def A90(op:BinOp)(k:IntKind)(a b:Int):Option Value:=match op with
 | .add=>some (.int k (k.wrap (a+b)))
 | .sub=>some (.int k (k.wrap (a-b)))
 | .mul=>some (.int k (k.wrap (a*b)))
 | .quo=>if b=0 then none else some (.int k (k.wrap (a.tdiv b)))
 | .rem=>if b=0 then none else some (.int k (a.tmod b))
 | .and=>some (.int k (bits .and k a b))
 | .or=>some (.int k (bits .or k a b))
 | .xor=>some (.int k (bits .xor k a b))
 | .andNot=>some (.int k (bits .andNot k a b))
 | .eql=>some (.bool (a==b))
 | .neq=>some (.bool (a != b))
 | .lss=>some (.bool (a<b))
 | .leq=>some (.bool (a<=b))
 | .gtr=>some (.bool (a>b))
 | .geq=>some (.bool (a>=b))
 | _=>none
def B5d(op:BinOp)(k:IntKind)(a b:Int):Option Value:=
 if b<0 then none else match op with
 | .shl=>some (.int k (k.wrap (a*2^(min b.toNat k.bits))))
 | .shr=>some (.int k (a.fdiv (2^(min b.toNat k.bits))))
 | _=>none
def eqOp(op:BinOp)(b:Bool):Option Value:=match op with
 | .eql=>some (.bool b)
 | .neq=>some (.bool !b)
 | _=>none
def E4r(op:BinOp)(a b:ByteArray):Option Value:=match op with
 | .add=>if((a.size+b.size:Nat):Int)<=9223372036854775807 then some (.string (a++b))else none
 | .eql=>some (.bool (a.toList==b.toList))
 | .neq=>some (.bool !(a.toList==b.toList))
 | .lss=>some (.bool (Op.bytesLess a.toList b.toList))
 | _=>none
def G6a:Value->Value->Option Bool
 | .bool x,.bool y=>some (x==y)
 | .int j a,.int k b=>if j=k then some (a==b)else none
 | .string a,.string b=>some (a==b)
 | _,_=>none
def F7t:List Value->List Value->Option Bool
 | [],[]=>some true
 | x::xs,y::ys=>match G6a x y with
  | some b=>match F7t xs ys with
   | some c=>some (b&&c)
   | none=>none
  | none=>none
 | _,_=>none
def B6l(o:Option (Nat×Bool×Nat))(x:Value):Option Value:=match o,x with
 | some (off,ag,n),.agg cs=>if off+n<=cs.size then(if ag then some (.agg (cs.extract off (off+n)))else cs[off]?)else none
 | _,_=>none
def allE{α:Type}(f:α->Option Bool):List α->Option Bool
 | []=>some true
 | x::r=>match f x with
  | some b=>match allE f r with
   | some c=>some (b&&c)
   | none=>none
  | none=>none
def C6c(ag:Option (Bool×Nat))(off:Nat)(xs ys:Array Value)(f:Value->Value->Option Bool):Option Bool:=match ag with
 | some (ag,n)=>match B6l (some (off,ag,n)) (.agg xs),B6l (some (off,ag,n)) (.agg ys)with
  | some a,some b=>f a b
  | _,_=>none
 | none=>none
def eqIn(P:Program):Nat->TypeId->Value->Value->Option Bool
 | 0,_,_,_=>none
 | d+1,t,x,y=>match P.underlying t,x,y with
  | some .bool,.bool a,.bool b=>some (a==b)
  | some (.int _),.int k a,.int k' b=>if k=k' then some (a==b)else none
  | some .string,.string a,.string b=>some (a==b)
  | some (.pointer _),.pointer none,.pointer b=>some b.isNone
  | some (.pointer _),.pointer (some _),.pointer none=>some false
  | some (.struct fs), .agg xs, .agg ys => if P.stoodInHeld t then none else allE (fun f => if f.name = "_" then some true else C6c (tAgg P f.type) f.offset xs ys (eqIn P d f.type)) fs.toList
  | some (.array n e),.agg xs,.agg ys=>match tAgg P e with
   | some (ag,m)=>allE (fun i=>C6c (some (ag,m)) (i*m) xs ys (eqIn P d e)) (List.range n)
   | none=>none
  | _,_,_=>none
def binV(P:Program)(op:BinOp)(t:TypeId)(x y:Value):Option Value:=match x,y with
 | .int k a,.int k' b=>match op with
  | .shl|.shr=>B5d op k a b
  | _=>if k=k' then A90 op k a b else none
 | .string a,.string b=>E4r op a b
 | .bool a,.bool b=>if P.underlying t matches some .bool then eqOp op (a==b)else none
 | .pointer none,.pointer b=>if P.underlying t matches some (.pointer _)then eqOp op b.isNone else none
 | .pointer (some _),.pointer none=>if P.underlying t matches some (.pointer _)then eqOp op false else none
 | .slice none _ _,.slice b _ _=>if P.underlying t matches some (.slice _)then eqOp op b.isNone else none
 | .slice (some _) _ _,.slice none _ _=>if P.underlying t matches some (.slice _)then eqOp op false else none
 | .map none,.map b=>if P.underlying t matches some (.map _ _)then eqOp op b.isNone else none
 | .map (some _),.map none=>if P.underlying t matches some (.map _ _)then eqOp op false else none
 | .nilFunc,.nilFunc=>if P.underlying t matches some (.func _ _ _)then eqOp op true else none
 | .nilFunc,.func _ _ _=>if P.underlying t matches some (.func _ _ _)then eqOp op false else none
 | .func _ _ _,.nilFunc=>if P.underlying t matches some (.func _ _ _)then eqOp op false else none
 | .nilIface,.iface _ _=>if P.underlying t matches some (.interface _)then eqOp op false else none
 | .iface _ _,.nilIface=>if P.underlying t matches some (.interface _)then eqOp op false else none
 | .agg xs,.agg ys=>if P.eqGuardType P.depth t then none else match eqIn P 10000 t (.agg xs) (.agg ys)with
  | some b=>eqOp op b
  | none=>none
 | _,_=>none
def unV(op:UnOp)(x:Value):Option Value:=match op,x with
 | .neg,.int k n=>some (.int k (k.wrap (0-n)))
 | .xor,.int k n=>some (.int k (bits .xor k (if k.signed then -1 else k.max) n))
 | .not,.bool b=>some (.bool !b)
 | _,_=>none
def A6r(c a b:Value):Option Value:=match c with
 | .bool true=>some a
 | .bool false=>some b
 | _=>none
def nilV:Value->Option Value
 | .pointer (some a)=>some (.pointer (some a))
 | .func (.func f) a b=>some (.func (.func f) a b)
 | .iface t v=>some (.iface t v)
 | _=>none
def A71(o:Option (Nat×Bool×Nat))(x:Value):Option Value:=match o,x with
 | some (n,_,_),.pointer (some a)=>some (.pointer (some ⟨a.block,a.off+n,none⟩))
 | _,_=>none
def A3g(o:Option (Option Nat×Bool×Nat))(x i:Value):Option Value:=match o,x,i with
 | some (none,_,n),.slice (some a) l _,.int _ j=>if 0<=j/\j<l then some (.pointer (some ⟨a.block,a.off+j.toNat*n,none⟩))else none
 | some (some l,_,n),.pointer (some a),.int _ j=>if 0<=j/\j<l then some (.pointer (some ⟨a.block,a.off+j.toNat*n,none⟩))else none
 | _,_,_=>none
def B3l(isStr:Bool)(o:Option (Option Nat×Bool×Nat))(x i:Value):Option Value:=match x,i with
 | .agg cs,.int _ j=>match o with
  | some (some l,ag,n)=>if 0<=j/\j<l then B6l (some (j.toNat*n,ag,n)) (.agg cs)else none
  | _=>none
 | .string s,.int _ j=>if isStr then(if 0<=j then(s[j.toNat]?).map (fun b=>.int .u8 b.toNat)else none)else none
 | _,_=>none
def extV(x:Value)(i:Nat):Option Value:=match x with
 | .tuple vs=>vs[i]?
 | _=>none
def D6n(src:Bool)(k:Option IntKind)(x:Value):Option Value:=match k,x with
 | some k,.int _ n=>if src then some (.int k (k.wrap n))else none
 | _,_=>none
def lenV(P:Program)(t:TypeId)(x:Value):Option Value:=match P.underlying t,x with
 | some .string,.string s=>some (.int .i64 s.size)
 | some (.array n _),_=>some (.int .i64 n)
 | some (.slice _),.slice _ n _=>some (.int .i64 n)
 | some (.map _ _),.map none=>some (.int .i64 0)
 | _,_=>none
def min2:Value->Value->Option Value
 | .int k x,.int _ y=>some (.int k (if y<x then y else x))
 | _,_=>none
def max2:Value->Value->Option Value
 | .int k x,.int _ y=>some (.int k (if y>x then y else x))
 | _,_=>none
def B3t(f:Value->Value->Option Value):List Value->Option Value
 | []=>none
 | x::r=>r.foldl (fun a y=>a.bind fun a=>f a y) (some x)
def A41(place:Nat->Option (Nat×Nat))(zero:List Value)(parts:Array (Nat×Value)):Option (List Value):=
 if parts.all (fun p=>data p.2)then(Instr.fill place zero.toArray parts.toList).map (·.toList)else none
def A0r(P:Program)(t:TypeId)(parts:Array (Nat×Value)):Option Value:=match A2r P t with
 | some z=>match P.underlying t with
  | some (.struct fs)=>match fs.toList.mapM (fun f=>(P.info? f.type).map fun i=>(f.offset,i.size))with
   | some places=>(A41 (fun i=>places[i]?) z parts).map fun l=>.agg l.toArray
   | none=>none
  | some (.array _ e)=>match A08 P e with
   | some n=>(A41 (fun i=>some (i*n,n)) z parts).map fun l=>.agg l.toArray
   | none=>none
  | _=>none
 | none=>none
def B0w?:Value->Option Int
 | .int _ n=>some n
 | _=>none
def A43?(v:Option Value)(d:Option Nat):Option Nat:=match v with
 | none=>d
 | some v=>match B0w? v with
  | some n=>if 0<=n then some n.toNat else none
  | none=>none
def slcV(P:Program)(t:TypeId)(x:Value)(lo hi mx:Option Value)(s:St):Option Value:=match P.underlying t,x with
 | some .string,.string b=>match A43? lo (some 0),A43? hi (some b.size),mx with
  | some l,some h,none=>if l<=h/\h<=b.size then some (.string (b.extract l h))else none
  | _,_,_=>none
 | some (.array n e),.pointer (some a)=>match A08 P e,A43? lo (some 0),A43? hi (some n),A43? mx (some n)with
  | some z,some l,some h,some m=>if(mx.isSome->hi.isSome)/\l<=h/\h<=m/\m<=n/\n<=9223372036854775807 then some (.slice (some ⟨a.block,a.off+l*z,none⟩) (h-l) (m-l))else none
  | _,_,_,_=>none
 | some (.slice e),.slice none 0 0=>match A43? lo (some 0),A43? hi (some 0),A43? mx (some 0)with
  | some 0,some 0,some 0=>if(A08 P e).isSome/\(mx.isSome->hi.isSome)then some (.slice none 0 0)else none
  | _,_,_=>none
 | some (.slice e),.slice (some a) n c=>match A08 P e,A43? lo (some 0),A43? hi (some n)with
  | some z,some l,some h=>
   if c=top+z then
    (match mx with
    | none=>if l<=h/\(h<=n\/(match s.heap a.block with|some (.cells vs _)=>decide (a.off+h*z<=vs.length)|_=>false)=true)then some (.slice (some ⟨a.block,a.off+l*z,none⟩) (h-l) c)else none
    | some mv=>match A43? (some mv) none with
     | some m=>if hi.isSome/\l<=h/\h<=m/\m<=n then some (.slice (some ⟨a.block,a.off+l*z,none⟩) (h-l) (m-l))else none
     | none=>none)
   else if c<top then(match A43? mx (some c)with
    | some m=>if(mx.isSome->hi.isSome)/\l<=h/\h<=m/\m<=c then some (.slice (some ⟨a.block,a.off+l*z,none⟩) (h-l) (m-l))else none
    | none=>none)
   else none
  | _,_,_=>none
 | _,_=>none
def A04(ag:Option (Bool×Nat))(p:Value)(s:St):Option Value:=match ag,p with
 | some (true,n),.pointer (some a)=>match s.heap a.block with
  | some (.cells vs _)=>if a.off+n<=vs.length then some (.agg ((vs.drop a.off).take n).toArray)else none
  | _=>none
 | some (false,_),.pointer (some a)=>match s.heap a.block with
  | some (.cells vs _)=>vs[a.off]?
  | _=>none
 | _,_=>none
def C0o(d:TypeDesc)(k:Value):List (Value×Value)->Nat->Option (Option (Nat×Value))
 | [],_=>some none
 | e::es,i=>match Instr.sameNow d k e.1 with
  | some true=>some (some (i,e.2))
  | some false=>C0o d k es (i+1)
  | none=>none
def B5v(x:Value)(s:St):Option (List (Value×Value)):=match x with
 | .map none=>some []
 | .map (some r)=>match s.heap r with
  | some (.map es _ _)=>some es
  | _=>none
 | _=>none
def B0y(m:Option (TypeDesc×Value))(x key:Value)(ok:Bool)(s:St):Option Value:=match m with
 | some (d,z)=>match B5v x s with
  | some es=>match C0o d key es 0 with
   | some (some (_,v))=>some (if ok then .tuple #[v,.bool true]else v)
   | some none=>some (if ok then .tuple #[z,.bool false]else z)
   | none=>none
  | none=>none
 | none=>none
def lenR(P:Program)(t:TypeId)(x:Value)(s:St):Option Value:=match x with
 | .map (some r)=>if A22 P t then(match s.heap r with
  | some (.map es _ _)=>some (.int .i64 es.length)
  | _=>none)else none
 | x=>lenV P t x
inductive NewV where
 | ptr
 | slc (l c:Nat)
 | map
def NewV.val:NewV->Nat->Value
 | .ptr,b=>.pointer (some ⟨b,0,none⟩)
 | .slc l c,b=>.slice (some ⟨b,0,none⟩) l c
 | .map,b=>.map (some b)
def A2q(z:List Value)(n:Nat):List Value:=(List.range n).map fun i=>z.getD (i%z.length) undef
def boxN(x:Value):Option (AObj×NewV):=if data x then some (.cells x.cells.toList false,.ptr)else none
def B40(z:Option (List Value)):Option (AObj×NewV):=z.map fun z=>(.cells z false,.ptr)
def nz:Nat->Bool
 | 0=>false
 | _+1=>true
@[simp]theorem nz_zero:nz 0=false:=rfl
@[simp]theorem nz_pos{n:Nat}(h:0<n):nz n=true:=by cases n with|zero=>omega|succ n=>rfl
def bslN(o:Option (TypeId×Nat×Nat×List Value))(len:Nat)(parts:Array (Nat×Value)):Option (AObj×NewV):=match o with
 | some (_,n,_,z)=>if len*n<=16777216 then(A41 (fun i=>some (i*n,n)) (A2q z (len*n)) parts).map fun l=>(.cells l (nz len),.slc len len)else none
 | none=>none
def mapN(ok:Bool)(r:Option Value):Option (AObj×NewV):=if ok then(match r with
  | none=>some (.map [] [] 0,.map)
  | some r=>(B0w? r).map fun _=>(.map [] [] 0,.map))else none
def mslN(o:Option (TypeId×Nat×Nat×List Value))(l c:Value):Option (AObj×NewV):=match o,B0w? l,B0w? c with
  | some (_,n,b,z),some l,some c=>if 0<=l/\l<=c/\c<=140737488355328/\b*c.toNat<=140737488355328 then some (.cells (A2q z (c.toNat*n)) false,.slc l.toNat c.toNat)else none
  | _,_,_=>none
def mapP(ρ:Operand->Value)(parts:Array (Nat×Operand)):Array (Nat×Value):=⟨parts.toList.map fun p=>(p.1,ρ p.2)⟩
theorem D5a(ρ:Operand->Value)(parts:Array (Nat×Operand)):mapP ρ parts=parts.map fun p=>(p.1,ρ p.2):=by apply Array.ext';simp[mapP]
def newA(P:Program)(op:Op)(ρ:Operand->Value):Option (AObj×NewV):=match op with
 | .alloc t=>B40 (A2r P t)
 | .box _ x=>boxN (ρ x)
 | .buildSlice t len parts=>bslN (A0e P t) len (mapP ρ parts)
 | .makeMap t r=>mapN (A22 P t) (r.map ρ)
 | .makeSlice t l c=>mslN (A0e P t) (ρ l) (ρ c)
 | _=>none
def A7j(n:Option Nat)(p v:Value)(k:Post)(s:St):Prop:=match n,p with
 | some n,.pointer (some a)=>match s.heap a.block with
  | some (.cells vs t)=>data v=true/\v.cells.size=n/\a.off+n<=vs.length/\k undef (s.put a.block (.cells (lwr vs a.off v.cells.toList) t))
  | _=>False
 | _,_=>False
def A3y(m:Option (TypeDesc×Value))(x key v:Value)(k:Post)(s:St):Prop:=match m,x with
 | some (d,_),.map (some r)=>match s.heap r with
  | some (.map es bs c)=>match C0o d key es 0 with
   | some (some (i,_))=>k undef (s.put r (.map (es.set i (key,v)) bs c))
   | some none=>k undef (s.put r (.map (es++[(key,v)]) (bs++[c]) (c+1)))
   | none=>False
  | _=>False
 | _,_=>False
def delW(m:Option (TypeDesc×Value))(x key:Value)(k:Post)(s:St):Prop:=match m,x with
 | some _,.map none=>k undef s
 | some (d,_),.map (some r)=>match s.heap r with
  | some (.map es bs c)=>match C0o d key es 0 with
   | some (some (i,_))=>k undef (s.put r (.map (es.eraseIdx i) (bs.eraseIdx i) c))
   | some none=>k undef s
   | none=>False
  | _=>False
 | _,_=>False
def A0z(z:Nat)(x:Value)(s:St):Option (List Value):=match x with
 | .slice none _ _=>some []
 | .slice (some a) l _=>if l=0 then some []else match s.heap a.block with
  | some (.cells vs _)=>if a.off+l*z<=vs.length then some ((vs.drop a.off).take (l*z))else none
  | _=>none
 | _=>none
def A2u(b:ByteArray):List Value:=b.data.toList.map fun x=>.int .u8 x.toNat
def A5r(P:Program)(t:TypeId):Option Bool:=match P.underlying t with
 | some (.int _)=>some true
 | some _=>some false
 | none=>none
def B31(P:Program)(t:TypeId)(z bytes:Nat)(zero:List Value)(x:Value)(s:St):Option (Nat×List Value):=
 match A5r P t,x with
 | some true,.int _ n=>if 0<=n/\n*bytes<=140737488355328/\n<=140737488355328 then some (n.toNat,A2q zero (n.toNat*z))else none
 | some false,.slice a l c=>(A0z z (.slice a l c) s).map fun cs=>(l,cs)
 | some false,.string b=>if z=1 then some (b.size,A2u b)else none
 | _,_=>none
def B30(z:Nat)(n:Nat)(cells:List Value)(k:Post)(s:St):Prop:=k (.slice (some ⟨s.next,0,none⟩) n (top+z)) (s.alloc (.cells cells true))
def appW(z bytes:Nat)(x:Value)(news:Option (Nat×List Value))(k:Post)(s:St):Prop:=match x,news with
 | .slice none 0 0,some (m,cs)=>if m=0 then k (.slice none 0 0) s else m*bytes<=140737488355328/\m<=140737488355328/\B30 z m cs k s
 | .slice (some a) l c,some (m,cs)=>if m=0 then k (.slice (some a) l c) s else
  (l+m)*bytes<=140737488355328/\l+m<=140737488355328/\if l=0/\c=0 then B30 z m cs k s else match s.heap a.block with
  | some (.cells vs tail)=>a.off+l*z<=vs.length/\
   (if c=top+z then
    (if a.off+(l+m)*z<=vs.length then k (.slice (some a) (l+m) c) (s.put a.block (.cells (lwr vs (a.off+l*z) cs) tail))
     else B30 z (l+m) ((vs.drop a.off).take (l*z)++cs) k s/\(tail=true->k (.slice (some a) (l+m) c) (s.put a.block (.cells (lwr vs (a.off+l*z) cs) tail))))
    else c<top/\(if l+m<=c then a.off+(l+m)*z<=vs.length/\k (.slice (some a) (l+m) c) (s.put a.block (.cells (lwr vs (a.off+l*z) cs) tail))
     else B30 z (l+m) ((vs.drop a.off).take (l*z)++cs) k s))
  | _=>False
 | _,_=>False
def B45(z:Nat)(dst src:Value)(k:Post)(s:St):Prop:=
 match(match src with|.string b=>if z=1 then some (b.size,A2u b)else none|.slice a l c=>(A0z z (.slice a l c) s).map fun cs=>(l,cs)|_=>none),dst with
 | some _,.slice none 0 0=>k (.int .i64 0) s
 | some (m,cs),.slice (some a) l _=>if Nat.min m l=0 then k (.int .i64 0) s else match s.heap a.block with
  | some (.cells vs tail)=>a.off+Nat.min m l*z<=vs.length/\k (.int .i64 (Nat.min m l)) (s.put a.block (.cells (lwr vs a.off (cs.take (Nat.min m l*z))) tail))
  | _=>False
 | _,_=>False
def A6d(P:Program)(t:TypeId)(x:Value)(k:Post)(s:St):Prop:=match x with
 | .map none=>A22 P t/\k undef s
 | .map (some r)=>A22 P t/\match s.heap r with
  | some (.map _ _ c)=>k undef (s.put r (.map [] [] c))
  | _=>False
 | .slice none _ _=>(A0e P t).isSome/\k undef s
 | .slice (some a) l _=>match A0e P t with
  | some (_,z,_,zero)=>if l=0 then k undef s else match s.heap a.block with
   | some (.cells vs tail)=>a.off+l*z<=vs.length/\k undef (s.put a.block (.cells (lwr vs a.off (A2q zero (l*z))) tail))
   | _=>False
  | none=>False
 | _=>False
def capW(P:Program)(t:TypeId)(x:Value)(k:Post)(s:St):Prop:=match A0e P t,x with
 | some _,.slice none _ c=>k (.int .i64 c) s
 | some (_,z,_,_),.slice (some a) l c=>if c<top then k (.int .i64 c) s else c=top+z/\match s.heap a.block with
  | some (.cells vs tail)=>∀n,l<=n->n<=9223372036854775807->vs.length<=a.off+n*z->(tail=false->vs.length=a.off+n*z)->
    k (.int .i64 n) (s.put a.block (.cells (vs++List.replicate (a.off+n*z-vs.length) undef) false))
  | _=>False
 | _,_=>False
inductive Cls where
 | p|r|a|e
 deriving DecidableEq
def cls:Op->Cls
 | .move _|.assign _|.pick ..|.build ..|.nilCheck _|.binOp ..|.unOp ..|.makeInterface ..|.makeFunc ..|.fieldAddr ..|.field ..|.indexAddr ..|.index ..|.extract ..=>.p
 | .load ..|.lookup ..|.slice ..|.convert ..=>.r
 | .alloc _|.box ..|.buildSlice ..|.makeMap ..|.makeSlice ..=>.a
 | .call c=>match c.callee with
  | .builtin .len=>.r
  | .builtin .min|.builtin .max=>.p
  | _=>.e
 | _=>.e
def mapA{α β:Type}(f:α->β)(a:Array α):Array β:=⟨a.toList.map f⟩
theorem D2a{α β:Type}(f:α->β)(a:Array α):mapA f a=a.map f:=by apply Array.ext';simp[mapA]
def mkIf(t:TypeId)(ok:Bool)(x:Value):Option Value:=if ok&&data x then some (.iface t x)else none
def mkFn(f:FuncId)(first caps:Array Value):Option Value:=if first.all data&&caps.all (fun v=>v.oneCell'&&data v)then some (.func (.func f) first caps)else none
def D5h(P:Program)(op:Op)(ρ:Operand->Value):Option Value:=match op with
 | .move x|.assign x=>some (ρ x)
 | .pick c a b=>A6r (ρ c) (ρ a) (ρ b)
 | .build t parts=>A0r P t (mapP ρ parts)
 | .nilCheck x=>nilV (ρ x)
 | .binOp op t x y _=>binV P op t (ρ x) (ρ y)
 | .unOp op _ x=>unV op (ρ x)
 | .makeInterface t x=>mkIf t (A48 P t) (ρ x)
 | .makeFunc fn first captured=>match fn with
  | .func f=>mkFn f (mapA ρ first) (mapA ρ captured)
  | _=>none
 | .fieldAddr t x f=>A71 (A0q P t f) (ρ x)
 | .field t x f=>B6l (A0q P t f) (ρ x)
 | .indexAddr t x i=>A3g (A46 P t) (ρ x) (ρ i)
 | .index t x i=>B3l (B5a P t) (A46 P t) (ρ x) (ρ i)
 | .extract x i=>extV (ρ x) i
 | .call c=>match c.callee with
  | .builtin .min=>B3t min2 (c.args.toList.map ρ)
  | .builtin .max=>B3t max2 (c.args.toList.map ρ)
  | _=>none
 | _=>none
def A7o?:List Value->ByteArray->Option ByteArray
 | [],acc=>some acc
 | .int .u8 n::r,acc=>A7o? r (acc.push (UInt8.ofNat n.toNat))
 | _,_=>none
def A68(P:Program)(src dst:TypeId):Bool:=match P.underlying src,P.underlying dst with
 | some (.slice e),some .string=>(match P.underlying e with|some (.int .u8)=>true|_=>false)
 | _,_=>false
def strV(x:Value)(s:St):Option Value:=match x with
 | .slice a l c=>(A0z 1 (.slice a l c) s).bind fun cs=>(A7o? cs .empty).map .string
 | _=>none
def C43(toS src:Bool)(k:Option IntKind)(x:Value)(s:St):Option Value:=if toS then strV x s else D6n src k x
def C9q(P:Program)(op:Op)(ρ:Operand->Value)(s:St):Option Value:=match op with
 | .load t a=>A04 (tAgg P t) (ρ a) s
 | .lookup t x i ok=>B0y (tMap P t) (ρ x) (ρ i) ok s
 | .slice t x lo hi mx=>slcV P t (ρ x) (lo.map ρ) (hi.map ρ) (mx.map ρ) s
 | .convert src dst x=>C43 (A68 P src dst) (P.underlying src).isSome (tInt P dst) (ρ x) s
 | .call c=>match c.callee,c.args.toList,c.argTypes.toList with
  | .builtin .len,[x],[t]=>lenR P t (ρ x) s
  | _,_,_=>none
 | _=>none
def tOvl(P:Program)(g:FuncId):Option Nat:=match P.funcs[g]? with
 | some fn => if fn.name != "runtime.NumGoroutine" && fn.origin == "slices.overlaps" && fn.body.isNone && (Extern.allNextRows.lookup fn.name).isNone && (Extern.allGenericRows.lookup fn.name).isNone &&
   (Extern.allTypedRows.lookup fn.name).isNone&&(Extern.allRows.lookup fn.name).isNone then(match fn.params.toList with
  | [t,_]=>(A0e P t).map (·.2.1)
  | _=>none)else none
 | none=>none
def ovlW(z:Option Nat)(args:List Value)(k:Post)(s:St):Prop:=match z,args with
 | some z,[.slice a la _,.slice b lb _]=>match a,b with
  | some a,some b=>if la=0\/lb=0 then k (.bool false) s else
   if a.block=b.block then k (.bool (decide (a.off<b.off+lb*z)&&decide (b.off<a.off+la*z))) s
   else match s.heap a.block,s.heap b.block with
    | some (.cells vs ta),some (.cells us tb)=>(ta||tb)=true/\a.off+la*z<=vs.length/\b.off+lb*z<=us.length/\k (.bool false) s
    | _,_=>False
  | _,_=>k (.bool false) s
 | _,_=>False
def B3u(P:Program)(C:A33)(g:FuncId)(args:List Value)(k:Post)(s:St):Prop:=match A3s P g with
 | true=>C g args k s
 | false=>ovlW (tOvl P g) args k s
def A75(ok:Bool)(x:Value)(k:Post)(s:St):Prop:=ok=true/\match x with
 | .map none=>k (.pointer (some ⟨s.next,0,none⟩)) (s.alloc (.iter none 0 [] 0))
 | .map (some r)=>match s.heap r with
  | some (.map _ _ c)=>k (.pointer (some ⟨s.next,0,none⟩)) (s.alloc (.iter (some r) c [] c))
  | _=>False
 | _=>False
def B28(isStr:Bool)(x:Value)(k:Post)(s:St):Prop:=isStr=false/\match x with
 | .pointer (some a)=>a.off=0/\match s.heap a.block with
  | some (.iter none _ _ _)=>k (.tuple #[.bool false]) s
  | some (.iter (some r) since seen last)=>match s.heap r with
   | some (.map es bs c)=>(∀b∈bs,b<since)/\since<=last/\
    (∀(j t:Nat) (e:Value×Value),bs[j]?=some t->es[j]?=some e->t∉seen->k (.tuple #[.bool true,e.1,e.2]) (s.put a.block (.iter (some r) since (seen++[t]) c)))/\
    ((∀t∈bs,t∈seen)->k (.tuple #[.bool false]) s)
   | _=>False
  | _=>False
 | _=>False
def A7k(x:Value)(k:Post)(s:St):Prop:=match x with
 | .pointer (some a)=>a.off=0/\match s.heap a.block with
  | some (.iter (some r) _ seen stepped)=>match s.heap r with
   | some (.map es bs c)=>c=stepped/\∃(t j:Nat) (e:Value×Value),seen.getLast?=some t/\bs[j]?=some t/\es[j]?=some e/\k (.tuple #[e.1,e.2]) s
   | _=>False
  | _=>False
 | _=>False
def A0u(P:Program)(C:A33)(f:Value)(args:List Value)(k:Post)(s:St):Prop:=match f with
 | .func (.func g) first captured=>B3u P C g (first.toList++(args++captured.toList)) k s
 | .func (.yield b) first captured=>first.size=0/\captured.size=0/\C (tok b) args k s
 | _=>False
def E3r(P:Program)(C:A33)(r:Value)(name:String)(args:List Value)(k:Post)(s:St):Prop:=match r with
 | .iface t v=>match C5p P t name with
  | some g=>A3s P g=true/\C g (v::args) k s
  | none=>False
 | _=>False
def apdW(P:Program)(o:Option (TypeId×Nat×Nat×List Value))(u:TypeId)(x y:Value)(k:Post)(s:St):Prop:=match o with
 | some (_,z,b,zero)=>appW z b x (B31 P u z b zero y s) k s
 | none=>False
def cpyW(o:Option (TypeId×Nat×Nat×List Value))(x y:Value)(k:Post)(s:St):Prop:=match o with
 | some (_,z,_,_)=>B45 z x y k s
 | none=>False
def G76(P:Program)(C:A33)(c:Call)(ρ:Operand->Value)(k:Post)(s:St):Prop:=match c.callee with
 | .builtin b=>match b,c.args.toList,c.argTypes.toList with
  | .append,[x,y],[t,u]=>apdW P (A0e P t) u (ρ x) (ρ y) k s
  | .copy,[x,y],t::_=>cpyW (A0e P t) (ρ x) (ρ y) k s
  | .delete,[x,y],t::_=>delW (tMap P t) (ρ x) (ρ y) k s
  | .clear,[x],[t]=>A6d P t (ρ x) k s
  | .cap,[x],[t]=>capW P t (ρ x) k s
  | _,_,_=>False
 | .value f=>A0u P C (ρ f) (c.args.toList.map ρ) k s
 | .invoke r name=>E3r P C (ρ r) name (c.args.toList.map ρ) k s
def effW(P:Program)(C:A33)(op:Op)(ρ:Operand->Value)(k:Post)(s:St):Prop:=match op with
 | .store t a x=>A7j (A08 P t) (ρ a) (ρ x) k s
 | .mapUpdate t m key x|.insert t m key x=>A3y (tMap P t) (ρ m) (ρ key) (ρ x) k s
 | .call c=>G76 P C c ρ k s
 | .range t x=>A75 (A22 P t) (ρ x) k s
 | .next x b=>B28 b (ρ x) k s
 | .entry x=>A7k (ρ x) k s
 | _=>False
def newW(o:Option (AObj×NewV))(k:Post)(s:St):Prop:=match o with
 | some (x,n)=>k (n.val s.next) (s.alloc x)
 | none=>False
def opW(P:Program)(C:A33)(op:Op)(ρ:Operand->Value)(k:Post)(s:St):Prop:=match cls op with
 | .p=>A1s (D5h P op ρ) k s
 | .r=>A1s (C9q P op ρ s) k s
 | .a=>newW (newA P op ρ) k s
 | .e=>effW P C op ρ k s
abbrev Fr:=Nat->Value
inductive Ex where
 | normal
 | exit (id:Nat)
 | ret
abbrev A0l:=Ex->Fr->St->Prop
def setV(A:Nat->Value)(d:Nat)(v:Value):Nat->Value:=fun i=>match Nat.beq i d with
 | true=>v
 | false=>A i
def putA(N:Nat)(A:Fr)(dst:Option Tmp)(v:Value):Fr:=match dst with
 | some d=>match Nat.blt d N with
  | true=>setV A d v
  | false=>A
 | none=>A
def A1j(want:Bool)(v:Value):Option Bool:=match v with
 | .bool b=>some (b==want)
 | .chan none=>some false
 | _=>none
def B80(ops:Array Oper)(A:Fr)(g:Option (Nat×Bool)):Option Bool:=match g with
 | none=>some true
 | some (j,want)=>match(ops[j]?).bind (·.dst)with
  | some d=>A1j want (A d)
  | none=>none
def gW(w:Option Bool)(X:Post->St->Prop)(k:Post)(s:St):Prop:=match w with
 | some true=>X k s
 | some false=>k (.chan none) s
 | none=>False
def D4v(g:Option (Nat×Bool))(w:Option Bool)(X:Post->St->Prop)(k:Post)(s:St):Prop:=match g with
 | none=>X k s
 | some _=>gW w X k s
theorem C64{g:Option (Nat×Bool)}{w:Option Bool}{X:Post->St->Prop}{k:Post}{s:St}(h:g=none->w=some true):D4v g w X k s=gW w X k s:=by
 cases g with
 | none=>rw[h rfl];rfl
 | some _=>rfl
def gO(w:Option Bool)(x:Option Value):Option Value:=match w with
 | some true=>x
 | some false=>some (.chan none)
 | none=>none
def optW(o:Option Value)(k:Value->Prop):Prop:=match o with
 | some v=>k v
 | none=>False
def chkW(w:Option Bool)(p q:Prop):Prop:=match w with
 | some true=>p/\q
 | some false=>q
 | none=>False
def mvOf(g:Option (Nat×Bool))(op:Op):Option Operand:=match g,op with
 | none,.move x=>some x
 | none,.assign x=>some x
 | _,_=>none
def B2x(P:Program)(C:A33)(N:Nat)(ops:Array Oper)(K:Fr->St->Prop):List Oper->Fr->St->Prop
 | [],A,s=>K A s
 | o::r,A,s=>match mvOf o.guard o.op with
  | some x=>B2x P C N ops K r (putA N A o.dst (opd A x)) s
  | none=>D4v o.guard (B80 ops A o.guard) (opW P C o.op (opd A)) (fun v s'=>B2x P C N ops K r (putA N A o.dst v) s') s
theorem C80{P:Program}{C:A33}{N:Nat}{ops:Array Oper}{K:Fr->St->Prop}{o:Oper}{r:List Oper}{A:Fr}{s:St} :
  B2x P C N ops K (o::r) A s=D4v o.guard (B80 ops A o.guard) (opW P C o.op (opd A)) (fun v s'=>B2x P C N ops K r (putA N A o.dst v) s') s:=by
 rw[B2x];cases hm:mvOf o.guard o.op with
 | none=>rfl
 | some x=>
  cases hg:o.guard with
  | some g=>simp[mvOf,hg]at hm
  | none=>cases ho:o.op<;>simp[mvOf,hg,ho]at hm<;>subst hm<;>rfl
def inL(i:Nat):List Nat->Bool
 | []=>false
 | x::r=>match Nat.beq i x with
  | true=>true
  | false=>inL i r
def wipe(l:List Nat)(A:Fr):Fr:=fun i=>match inL i l with
 | true=>undef
 | false=>A i
def toL(N:Nat)(A:Fr):List Value:=(List.range N).map A
def ofL(l:List Value):Fr:=fun i=>l.getD i undef
end Go.Zz
namespace Go.Zz
open Go
variable {n : Nat} {J : Nat → Plc} {o : Bool} {x y : Value}
theorem VR.bool_inv{b:Bool}(h:VR n J o (.bool b) y):y=.bool b:=by
 generalize hx:Value.bool b=x at h;induction h<;>first|(cases hx;rfl)|(unfold undef at hx;cases hx;done)|(rename_i ih;exact ih hx)|(cases hx;done)
theorem VR.int_inv{k:IntKind}{i:Int}(h:VR n J o (.int k i) y):y=.int k i:=by
 generalize hx:Value.int k i=x at h;induction h<;>first|(cases hx;rfl)|(unfold undef at hx;cases hx;done)|(rename_i ih;exact ih hx)|(cases hx;done)
theorem VR.string_inv{s:ByteArray}(h:VR n J o (.string s) y):y=.string s:=by
 generalize hx:Value.string s=x at h;induction h<;>first|(cases hx;rfl)|(unfold undef at hx;cases hx;done)|(rename_i ih;exact ih hx)|(cases hx;done)
theorem VR.nilPtr_inv(h:VR n J o (.pointer none) y):y=.pointer none:=by
 generalize hx:Value.pointer none=x at h;induction h<;>first|(cases hx;rfl)|(unfold undef at hx;cases hx;done)|(rename_i ih;exact ih hx)|(cases hx;done)
theorem VR.ptr_inv{a:Addr}(h:VR n J o (.pointer (some a)) y):a.block<n/\a.spot=none/\y=.pointer (some (tr (J a.block) a)):=by
 generalize hx:Value.pointer (some a)=x at h;induction h<;>first|(cases hx;rename_i h1 h2;exact⟨h1,h2,rfl⟩)|(unfold undef at hx;cases hx;done)|(rename_i ih;exact ih hx)|(cases hx;done)
theorem VR.nilSlice_inv{l c:Nat}(h:VR n J o (.slice none l c) y):l=0/\c=0/\y=.slice none 0 0:=by
 generalize hx:Value.slice none l c=x at h;induction h<;>first|(cases hx;exact⟨rfl,rfl,rfl⟩)|(unfold undef at hx;cases hx;done)|(rename_i ih;exact ih hx)|(cases hx;done)
theorem VR.slice_inv{a:Addr}{l c:Nat}(h:VR n J o (.slice (some a) l c) y):∃a' c',y=.slice (some a') l c'/\a.block<n/\a.spot=none/\l<=c'/\c'<=9223372036854775807/\
  (c'=0\/a'=tr (J a.block) a)/\(c=c'\/(c=top+(J a.block).w/\0<(J a.block).w/\a.off+c'*(J a.block).w=(J a.block).ext)):=by
 generalize hx:Value.slice (some a) l c=x at h;induction h with
 | slice h1 h2 h3 h4 h5 h6=>cases hx;exact⟨_,_,rfl,h1,h2,h3,h4,h5,h6⟩
 | one _ ih=>exact ih hx
 | dc1 _=>unfold undef at hx;cases hx
 | dc=>unfold undef at hx;cases hx
 | _=>cases hx
theorem VR.nilMap_inv(h:VR n J o (.map none) y):y=.map none:=by
 generalize hx:Value.map none=x at h;induction h<;>first|(cases hx;rfl)|(unfold undef at hx;cases hx;done)|(rename_i ih;exact ih hx)|(cases hx;done)
theorem VR.map_inv{r:Nat}(h:VR n J o (.map (some r)) y):r<n/\y=.map (some (J r).cb):=by
 generalize hx:Value.map (some r)=x at h;induction h<;>first|(cases hx;rename_i h1;exact⟨h1,rfl⟩)|(unfold undef at hx;cases hx;done)|(rename_i ih;exact ih hx)|(cases hx;done)
theorem VR.nilFunc_inv(h:VR n J o .nilFunc y):y=.nilFunc:=by
 generalize hx:Value.nilFunc=x at h;induction h<;>first|(cases hx;rfl)|(unfold undef at hx;cases hx;done)|(rename_i ih;exact ih hx)|(cases hx;done)
theorem VR.func_inv'{f:Fn}{fs cs:Array Value}(h:VR n J o (.func f fs cs) y):∃g fs' cs',y=.func g fs' cs'/\cs.size=cs'.size/\
  (∀(i:Nat) (x y:Value),cs[i]?=some x->cs'[i]?=some y->VR n J true x y)/\fs.size=fs'.size/\(∀(i:Nat) (x y:Value),fs[i]?=some x->fs'[i]?=some y->VR n J false x y)/\
  ((∃a,f=.func a/\g=.func a)\/∃l,f=.yield l/\l<n/\g=.yield (J l).cb/\fs=#[]/\cs=#[]):=by
 generalize hx:Value.func f fs cs=x at h;induction h<;>first|(cases hx;rename_i h1 h2 _ h3 h4 _;exact⟨_,_,_,rfl,h3,h4,h1,h2,.inl ⟨_,rfl,rfl⟩⟩)|(cases hx;rename_i h1;exact⟨_,_,_,rfl,rfl,fun i x y hx=>by simp at hx,rfl,fun i x y hx=>by simp at hx,.inr ⟨_,rfl,h1,rfl,rfl,rfl⟩⟩)|(unfold undef at hx;cases hx;done)|(rename_i ih;exact ih hx)|(cases hx;done)
theorem VR.func_inv{f:FuncId}{fs cs:Array Value}(h:VR n J o (.func (.func f) fs cs) y):∃fs' cs',y=.func (.func f) fs' cs'/\cs.size=cs'.size/\
  (∀(i:Nat) (x y:Value),cs[i]?=some x->cs'[i]?=some y->VR n J true x y)/\fs.size=fs'.size/\(∀(i:Nat) (x y:Value),fs[i]?=some x->fs'[i]?=some y->VR n J false x y):=by
 obtain⟨g,fs',cs',h2,h3,h4,h5,h6,h7⟩:=h.func_inv';rcases h7 with⟨a,ha,rfl⟩|⟨l,hl,_⟩
 ·cases ha;exact⟨_,_,h2,h3,h4,h5,h6⟩
 ·cases hl
theorem VR.yield_inv{l:Nat}{fs cs:Array Value}(h:VR n J o (.func (.yield l) fs cs) y)(h0:cs.size=0):l<n/\y=.func (.yield (J l).cb) #[] #[]:=by
 obtain⟨g,fs',cs',h2,h3,h4,h5,h6,h7⟩:=h.func_inv';rcases h7 with⟨a,ha,rfl⟩|⟨l,hl,hlt,rfl,rfl,rfl⟩
 ·cases ha
 ·cases hl;have e1:cs'=#[]:=Array.eq_empty_of_size_eq_zero (by simpa using h3.symm)
  have e2:fs'=#[]:=Array.eq_empty_of_size_eq_zero (by simpa using h5.symm)
  subst e1;subst e2;exact⟨hlt,h2⟩
theorem VR.skip_inv(h:VR n J o (.chan none) y):y=undef:=by
 generalize hx:Value.chan none=x at h;induction h<;>first|(cases hx;rfl)|(unfold undef at hx;cases hx;done)|(rename_i ih;exact ih hx)|(cases hx;done)
theorem VR.nilIface_inv(h:VR n J o .nilIface y):y=.nilIface:=by
 generalize hx:Value.nilIface=x at h;induction h<;>first|(cases hx;rfl)|(unfold undef at hx;cases hx;done)|(rename_i ih;exact ih hx)|(cases hx;done)
theorem VR.iface_inv{t:TypeId}{u:Value}(h:VR n J o (.iface t u) y):∃u',y=.iface t u'/\VR n J false u u'/\data u=true:=by
 generalize hx:Value.iface t u=x at h;induction h<;>first|(cases hx;rename_i h1 h2 h3 _;exact⟨_,rfl,h1,by cases hu:(u)<;>first|rfl|exact absurd hu (h2 _)|exact absurd hu (h3 _)⟩)|(unfold undef at hx;cases hx;done)|(rename_i ih;exact ih hx)|(cases hx;done)
theorem VR.agg_inv{cs:Array Value}(h:VR n J o (.agg cs) y):∃cs',y=.agg cs'/\cs.size=cs'.size/\(∀(i:Nat) (x y:Value),cs[i]?=some x->cs'[i]?=some y->VR n J true x y):=by
 generalize hx:Value.agg cs=x at h;induction h<;>first|(cases hx;rename_i h1 h2 _;exact⟨_,rfl,h1,h2⟩)|(unfold undef at hx;cases hx;done)|(rename_i ih;exact ih hx)|(cases hx;done)
theorem VR.tuple_inv{cs:Array Value}(h:VR n J false (.tuple cs) y)(h0:cs.size≠0):∃cs',y=.tuple cs'/\cs.size=cs'.size/\(∀(i:Nat) (x y:Value),cs[i]?=some x->cs'[i]?=some y->VR n J false x y):=by
 generalize hx:Value.tuple cs=x at h;generalize ho:false=o at h;induction h with
 | tuple h1 h2 _=>cases hx;exact⟨_,rfl,h1,h2⟩
 | dc=>unfold undef at hx;cases hx;simp at h0
 | dc1 _=>cases ho
 | one h _=>
  rename_i x y;clear ho;generalize ho:true=o at h;cases h<;>first|(cases hx;done)|(unfold undef at hx;cases hx;simp at h0)|(cases ho)
 | _=>cases hx
theorem VR.cells(h:VR n J false x y)(hd:data x=true):x.cells.size=y.cells.size/\∀(i:Nat) (u v:Value),x.cells[i]?=some u->y.cells[i]?=some v->VR n J true u v:=by
 generalize ho:false=o at h;cases h with
 | dc=>simp[undef,data]at hd
 | skip=>simp[data]at hd
 | one h=>
  have hx:x.cells=#[x]:=by
   clear ho;generalize ho:true=o at h;cases h<;>first|rfl|cases ho
  have hy:y.cells=#[y]:=by
   have:=h.one_right;cases y<;>first|rfl|(simp[Value.oneCell']at this)
  rw[hx,hy];refine⟨rfl,fun i u v hu hv=>?_⟩;cases i with
  | zero=>simp at hu hv;rw[<-hu,<-hv];exact h
  | succ i=>simp at hu
 | agg h1 h2=>exact⟨h1,h2⟩
 | tuple h1 h2=>simp[data]at hd
 | _=>cases ho
theorem VR.plain(h:plain x=true):VR n J true x x:=by
 cases x with
 | bool b=>exact .bool b
 | int k i=>exact .int k i
 | float k i=>exact .float k i
 | string s=>exact .string s
 | pointer a=>cases a with
  | none=>exact .nilPtr
  | some a=>simp[Zz.plain]at h
 | slice a l c=>
  cases a with
  | none=>
   cases l<;>cases c<;>simp[Zz.plain]at h;exact .nilSlice
  | some a=>simp[Zz.plain]at h
 | map r=>cases r with
  | none=>exact .nilMap
  | some r=>simp[Zz.plain]at h
 | nilFunc=>exact .nilFunc
 | nilIface=>exact .nilIface
 | func f a b=>
  cases f<;>simp[Zz.plain]at h;obtain⟨rfl,rfl⟩:=h;exact .func rfl (fun i x y hx _=>by simp at hx) rfl (fun i x y hx _=>by simp at hx)
 | _=>simp[Zz.plain]at h
theorem VR.const(v:Value):VR n J false (const v) v:=by
 unfold Zz.const;split
 ·rename_i cs;split
  ·rename_i h;refine .agg rfl (fun i x y hx hy=>?_);rw[hx]at hy;cases hy;exact .plain (Array.all_eq_true'.1 h x (Array.mem_of_getElem? hx))
  ·exact .dc
 ·exact .dc
 ·split
  ·rename_i h;exact .one (.plain h)
  ·exact .dc
def VRf(N n:Nat)(J:Nat->Plc)(A:Fr)(t:Array Value):Prop:=t.size=N/\∀i,VR n J false (A i) (t.getD i undef)
theorem VRf.mono{N n n':Nat}{J J':Nat->Plc}(hn:n<=n')(hJ:∀b,b<n->J' b=J b){A:Fr}{t:Array Value}(h:VRf N n J A t):VRf N n' J' A t:=
 ⟨h.1,fun i=>(h.2 i).mono hn hJ⟩
theorem A9c(A:Nat->Value)(d:Nat)(v:Value):setV A d v d=v:=by simp[setV]
theorem A4t(A:Nat->Value){d i:Nat}(h:d≠i)(v:Value):setV A d v i=A i:=by
 unfold setV;split
 ·rename_i hb;exact absurd (Nat.eq_of_beq_eq_true hb).symm h
 ·rfl
theorem B2j{G N:Nat}{s:St}{w:World}(hS:Sim G s J w){A:Fr}{a:Act}(h:VRf N s.next J A a.tmps)(x:Operand)(hG:1000<=G) :
  VR s.next J false (opd A x) (a.eval x):=by
 cases x with
 | tmp t=>exact h.2 t
 | const v=>exact .const v
 | global g=>
  simp only[opd];split<;>rename_i hlt
  case isFalse=>exact .dc
  have hlt:g<1000:=by simpa using hlt
  obtain⟨h1,h2,h3⟩:=hS.glob g (by omega)
  have:(⟨g,0,none⟩:Addr)=tr (J g) ⟨g,0,none⟩:=by simp[tr,h2,h3]
  simp only[Act.eval]
  conv=>arg 5;rw[this]
  exact .one (.ptr h1 rfl)
 | func f=>exact .one (.func rfl (fun i x y hx _=>by simp at hx) rfl (fun i x y hx _=>by simp at hx))
end Go.Zz
