/- The calculus: what each operation does on the abstract heap, and what a piece of code, and a call, comes to. -/
import Derived.Test.YtcjoihkdaoflfaaGreatB
set_option linter.all false
namespace Go.Zz
open Go

abbrev Post := Value → St → Prop
abbrev CallT := FuncId → List Value → Post → St → Prop

def data : Value → Bool
  | .tuple _ => false
  | .chan _ => false
  | _ => true

/-- One cell, without an address. -/
def plain : Value → Bool
  | .bool _ | .int _ _ | .float _ _ | .string _ | .pointer none | .slice none 0 0 | .map none | .nilFunc | .nilIface => true
  | .func (.func _) a b => a.size == 0 && b.size == 0
  | _ => false

/-- A constant of the code. -/
def const : Value → Value
  | .agg cs => if cs.all plain then .agg cs else undef
  | .tuple _ => undef
  | v => if plain v then v else undef

def opd (A : Nat → Value) : Operand → Value
  | .tmp t => A t
  | .const v => const v
  | .global g => if Nat.blt g 1000 then .pointer (some ⟨g, 0, none⟩) else undef
  | .func f => .func (.func f) #[] #[]

def bindO (o : Option Value) (k : Post) (s : St) : Prop := match o with
  | some v => k v s
  | none => False

section types
variable (P : Program)
def tSize (t : TypeId) : Option Nat := (P.info? t).map (·.size)
/-- Is it a struct or an array, and how many cells has it? -/
def tAgg (t : TypeId) : Option (Bool × Nat) := match P.underlying t, P.info? t with
  | some (.struct _), some i => some (true, i.size)
  | some (.array _ _), some i => some (true, i.size)
  | some _, some i => some (false, i.size)
  | _, _ => none
def tZero (t : TypeId) : Option (List Value) := match (P.info? t).bind (·.zero) with
  | some z => if data z && z.cells.all plain then some z.cells.toList else none
  | none => none
def tZeroV (t : TypeId) : Option Value := match (P.info? t).bind (·.zero) with
  | some z => if data z && z.cells.all plain then some z else none
  | none => none
def tField (t : TypeId) (f : Nat) : Option (Nat × Bool × Nat) := match P.underlying t with
  | some (.struct fs) => match fs[f]? with
    | some fd => match tAgg P fd.type with
      | some (ag, n) => if n = 0 then none else some (fd.offset, ag, n)
      | none => none
    | none => none
  | _ => none
/-- A slice's or an array's elements: how many (of an array), and each one's cells. -/
def tElem (t : TypeId) : Option (Option Nat × Bool × Nat) := match P.underlying t with
  | some (.slice e) => (tAgg P e).map fun x => (none, x.1, x.2)
  | some (.array n e) => (tAgg P e).map fun x => (some n, x.1, x.2)
  | _ => none
/-- A slice's elements: the type, cells, bytes, zero cells. -/
def tSlice (t : TypeId) : Option (TypeId × Nat × Nat × List Value) := match P.underlying t with
  | some (.slice e) => match P.info? e, tZero P e with
    | some i, some z => if z.length = i.size ∧ 0 < i.size then some (e, i.size, i.bytes, z) else none
    | _, _ => none
  | _ => none
def tInt (t : TypeId) : Option IntKind := match P.underlying t with
  | some (.int k) => some k
  | _ => none
def tIsStr (t : TypeId) : Bool := match P.underlying t with
  | some .string => true
  | _ => false
def tIsMap (t : TypeId) : Bool := match P.underlying t with
  | some (.map _ _) => true
  | _ => false
/-- A map with keys of a kind that is compared at once: the key's kind, and the elements' zero value. -/
def tMap (t : TypeId) : Option (TypeDesc × Value) := match P.underlying t with
  | some (.map k e) => match P.underlying k, tZeroV P e with
    | some (.int q), some z => some (.int q, z)
    | some .string, some z => some (.string, z)
    | some .bool, some z => some (.bool, z)
    | _, _ => none
  | _ => none
def tConcrete (t : TypeId) : Bool := match P.underlying t with
  | some (.interface _) => false
  | some _ => true
  | none => false
/-- All parts are compared at once. -/
def tPlainIn : Nat → TypeId → Bool
  | 0, _ => false
  | d + 1, t => match P.underlying t with
    | some (.int _) | some .bool | some .string => true
    | some (.array _ e) => tPlainIn d e
    | some (.struct fs) => fs.all (fun f => f.name != "_" && tPlainIn d f.type) && !P.stoodInHeld t
    | _ => false
def hasBody (f : FuncId) : Bool := match P.funcs[f]? with
  | some fn => fn.name != "runtime.NumGoroutine" && fn.body.isSome
  | none => false
/-- A method of a type's own: its function, and whether the receiver is a pointer. -/
def tMethod (t : TypeId) (name : String) : Option FuncId := match (P.info? t).bind fun i => i.methods.find? (·.name == name) with
  | some m => match m.func, P.underlying t with
    | some (f, true), some (.pointer _) => if m.path.isEmpty then some f else none
    | some (f, false), some (.pointer _) => none
    | some (f, false), some (.interface _) => none
    | some (f, false), some _ => if m.path.isEmpty then some f else none
    | _, _ => none
  | none => none
end types

/-! ## Operations that only reckon -/

def intOp (op : BinOp) (k : IntKind) (a b : Int) : Option Value := match op with
  | .add => some (.int k (k.wrap (a + b)))
  | .sub => some (.int k (k.wrap (a - b)))
  | .mul => some (.int k (k.wrap (a * b)))
  | .quo => if b = 0 then none else some (.int k (k.wrap (a.tdiv b)))
  | .rem => if b = 0 then none else some (.int k (a.tmod b))
  | .and => some (.int k (bits .and k a b))
  | .or => some (.int k (bits .or k a b))
  | .xor => some (.int k (bits .xor k a b))
  | .andNot => some (.int k (bits .andNot k a b))
  | .eql => some (.bool (a == b))
  | .neq => some (.bool (a != b))
  | .lss => some (.bool (a < b))
  | .leq => some (.bool (a ≤ b))
  | .gtr => some (.bool (a > b))
  | .geq => some (.bool (a ≥ b))
  | _ => none

def shiftOp (op : BinOp) (k : IntKind) (a b : Int) : Option Value :=
  if b < 0 then none else match op with
  | .shl => some (.int k (k.wrap (a * 2 ^ (min b.toNat k.bits))))
  | .shr => some (.int k (a.fdiv (2 ^ (min b.toNat k.bits))))
  | _ => none

def eqOp (op : BinOp) (b : Bool) : Option Value := match op with
  | .eql => some (.bool b)
  | .neq => some (.bool !b)
  | _ => none

def strOp (op : BinOp) (a b : ByteArray) : Option Value := match op with
  | .add => if ((a.size + b.size : Nat) : Int) ≤ 9223372036854775807 then some (.string (a ++ b)) else none
  | .eql => some (.bool (a.toList == b.toList))
  | .neq => some (.bool !(a.toList == b.toList))
  | .lss => some (.bool (Op.bytesLess a.toList b.toList))
  | _ => none

/-- Cells that are compared at once. -/
def cellEq : Value → Value → Option Bool
  | .bool x, .bool y => some (x == y)
  | .int j a, .int k b => if j = k then some (a == b) else none
  | .string a, .string b => some (a == b)
  | _, _ => none
def cellsEq : List Value → List Value → Option Bool
  | [], [] => some true
  | x :: xs, y :: ys => match cellEq x y with
    | some b => match cellsEq xs ys with
      | some c => some (b && c)
      | none => none
    | none => none
  | _, _ => none

/-- A part of an aggregate. -/
def partV (o : Option (Nat × Bool × Nat)) (x : Value) : Option Value := match o, x with
  | some (off, ag, n), .agg cs => if off + n ≤ cs.size then (if ag then some (.agg (cs.extract off (off + n))) else cs[off]?) else none
  | _, _ => none

def allE {α : Type} (f : α → Option Bool) : List α → Option Bool
  | [] => some true
  | x :: r => match f x with
    | some b => match allE f r with
      | some c => some (b && c)
      | none => none
    | none => none
def partsE (ag : Option (Bool × Nat)) (off : Nat) (xs ys : Array Value) (f : Value → Value → Option Bool) : Option Bool := match ag with
  | some (ag, n) => match partV (some (off, ag, n)) (.agg xs), partV (some (off, ag, n)) (.agg ys) with
    | some a, some b => f a b
    | _, _ => none
  | none => none
/-- Equality of what is compared at once, part by part. -/
def eqIn (P : Program) : Nat → TypeId → Value → Value → Option Bool
  | 0, _, _, _ => none
  | d + 1, t, x, y => match P.underlying t, x, y with
    | some .bool, .bool a, .bool b => some (a == b)
    | some (.int _), .int k a, .int k' b => if k = k' then some (a == b) else none
    | some .string, .string a, .string b => some (a == b)
    | some (.pointer _), .pointer none, .pointer b => some b.isNone
    | some (.pointer _), .pointer (some _), .pointer none => some false
    | some (.struct fs), .agg xs, .agg ys => if P.stoodInHeld t then none else allE (fun f => if f.name = "_" then some true else partsE (tAgg P f.type) f.offset xs ys (eqIn P d f.type)) fs.toList
    | some (.array n e), .agg xs, .agg ys => match tAgg P e with
      | some (ag, m) => allE (fun i => partsE (some (ag, m)) (i * m) xs ys (eqIn P d e)) (List.range n)
      | none => none
    | _, _, _ => none

def binV (P : Program) (op : BinOp) (t : TypeId) (x y : Value) : Option Value := match x, y with
  | .int k a, .int k' b => match op with
    | .shl | .shr => shiftOp op k a b
    | _ => if k = k' then intOp op k a b else none
  | .string a, .string b => strOp op a b
  | .bool a, .bool b => if P.underlying t matches some .bool then eqOp op (a == b) else none
  | .pointer none, .pointer b => if P.underlying t matches some (.pointer _) then eqOp op b.isNone else none
  | .pointer (some _), .pointer none => if P.underlying t matches some (.pointer _) then eqOp op false else none
  | .slice none _ _, .slice b _ _ => if P.underlying t matches some (.slice _) then eqOp op b.isNone else none
  | .slice (some _) _ _, .slice none _ _ => if P.underlying t matches some (.slice _) then eqOp op false else none
  | .map none, .map b => if P.underlying t matches some (.map _ _) then eqOp op b.isNone else none
  | .map (some _), .map none => if P.underlying t matches some (.map _ _) then eqOp op false else none
  | .nilFunc, .nilFunc => if P.underlying t matches some (.func _ _ _) then eqOp op true else none
  | .nilFunc, .func _ _ _ => if P.underlying t matches some (.func _ _ _) then eqOp op false else none
  | .func _ _ _, .nilFunc => if P.underlying t matches some (.func _ _ _) then eqOp op false else none
  | .nilIface, .iface _ _ => if P.underlying t matches some (.interface _) then eqOp op false else none
  | .iface _ _, .nilIface => if P.underlying t matches some (.interface _) then eqOp op false else none
  | .agg xs, .agg ys => if P.eqGuardType P.depth t then none else match eqIn P 10000 t (.agg xs) (.agg ys) with
    | some b => eqOp op b
    | none => none
  | _, _ => none

def unV (op : UnOp) (x : Value) : Option Value := match op, x with
  | .neg, .int k n => some (.int k (k.wrap (0 - n)))
  | .xor, .int k n => some (.int k (bits .xor k (if k.signed then -1 else k.max) n))
  | .not, .bool b => some (.bool !b)
  | _, _ => none

def pickV (c a b : Value) : Option Value := match c with
  | .bool true => some a
  | .bool false => some b
  | _ => none

def nilV : Value → Option Value
  | .pointer (some a) => some (.pointer (some a))
  | .func (.func f) a b => some (.func (.func f) a b)
  | .iface t v => some (.iface t v)
  | _ => none

def ptrAdd (o : Option (Nat × Bool × Nat)) (x : Value) : Option Value := match o, x with
  | some (n, _, _), .pointer (some a) => some (.pointer (some ⟨a.block, a.off + n, none⟩))
  | _, _ => none

def idxAddr (o : Option (Option Nat × Bool × Nat)) (x i : Value) : Option Value := match o, x, i with
  | some (none, _, n), .slice (some a) l _, .int _ j => if 0 ≤ j ∧ j < l then some (.pointer (some ⟨a.block, a.off + j.toNat * n, none⟩)) else none
  | some (some l, _, n), .pointer (some a), .int _ j => if 0 ≤ j ∧ j < l then some (.pointer (some ⟨a.block, a.off + j.toNat * n, none⟩)) else none
  | _, _, _ => none

def idxVal (isStr : Bool) (o : Option (Option Nat × Bool × Nat)) (x i : Value) : Option Value := match x, i with
  | .agg cs, .int _ j => match o with
    | some (some l, ag, n) => if 0 ≤ j ∧ j < l then partV (some (j.toNat * n, ag, n)) (.agg cs) else none
    | _ => none
  | .string s, .int _ j => if isStr then (if 0 ≤ j then (s[j.toNat]?).map (fun b => .int .u8 b.toNat) else none) else none
  | _, _ => none

def extV (x : Value) (i : Nat) : Option Value := match x with
  | .tuple vs => vs[i]?
  | _ => none

def convV (src : Bool) (k : Option IntKind) (x : Value) : Option Value := match k, x with
  | some k, .int _ n => if src then some (.int k (k.wrap n)) else none
  | _, _ => none

def lenV (P : Program) (t : TypeId) (x : Value) : Option Value := match P.underlying t, x with
  | some .string, .string s => some (.int .i64 s.size)
  | some (.array n _), _ => some (.int .i64 n)
  | some (.slice _), .slice _ n _ => some (.int .i64 n)
  | some (.map _ _), .map none => some (.int .i64 0)
  | _, _ => none

def min2 : Value → Value → Option Value
  | .int k x, .int _ y => some (.int k (if y < x then y else x))
  | _, _ => none
def max2 : Value → Value → Option Value
  | .int k x, .int _ y => some (.int k (if y > x then y else x))
  | _, _ => none
def foldV (f : Value → Value → Option Value) : List Value → Option Value
  | [] => none
  | x :: r => r.foldl (fun a y => a.bind fun a => f a y) (some x)

def fillV (place : Nat → Option (Nat × Nat)) (zero : List Value) (parts : Array (Nat × Value)) : Option (List Value) :=
  if parts.all (fun p => data p.2) then (Instr.fill place zero.toArray parts.toList).map (·.toList) else none

def buildV (P : Program) (t : TypeId) (parts : Array (Nat × Value)) : Option Value := match tZero P t with
  | some z => match P.underlying t with
    | some (.struct fs) => match fs.toList.mapM (fun f => (P.info? f.type).map fun i => (f.offset, i.size)) with
      | some places => (fillV (fun i => places[i]?) z parts).map fun l => .agg l.toArray
      | none => none
    | some (.array _ e) => match tSize P e with
      | some n => (fillV (fun i => some (i * n, n)) z parts).map fun l => .agg l.toArray
      | none => none
    | _ => none
  | none => none

/-- The bounds of a slice expression: from, to, and where the capacity ends. -/
def intOf? : Value → Option Int
  | .int _ n => some n
  | _ => none
def bound? (v : Option Value) (d : Option Nat) : Option Nat := match v with
  | none => d
  | some v => match intOf? v with
    | some n => if 0 ≤ n then some n.toNat else none
    | none => none

def slcV (P : Program) (t : TypeId) (x : Value) (lo hi mx : Option Value) (s : St) : Option Value := match P.underlying t, x with
  | some .string, .string b => match bound? lo (some 0), bound? hi (some b.size), mx with
    | some l, some h, none => if l ≤ h ∧ h ≤ b.size then some (.string (b.extract l h)) else none
    | _, _, _ => none
  | some (.array n e), .pointer (some a) => match tSize P e, bound? lo (some 0), bound? hi (some n), bound? mx (some n) with
    | some z, some l, some h, some m => if (mx.isSome → hi.isSome) ∧ l ≤ h ∧ h ≤ m ∧ m ≤ n ∧ n ≤ 9223372036854775807 then some (.slice (some ⟨a.block, a.off + l * z, none⟩) (h - l) (m - l)) else none
    | _, _, _, _ => none
  | some (.slice e), .slice none 0 0 => match bound? lo (some 0), bound? hi (some 0), bound? mx (some 0) with
    | some 0, some 0, some 0 => if (tSize P e).isSome ∧ (mx.isSome → hi.isSome) then some (.slice none 0 0) else none
    | _, _, _ => none
  | some (.slice e), .slice (some a) n c => match tSize P e, bound? lo (some 0), bound? hi (some n) with
    | some z, some l, some h =>
      if c = top + z then
        (match mx with
        | none => if l ≤ h ∧ (h ≤ n ∨ (match s.heap a.block with | some (.cells vs _) => decide (a.off + h * z ≤ vs.length) | _ => false) = true) then some (.slice (some ⟨a.block, a.off + l * z, none⟩) (h - l) c) else none
        | some mv => match bound? (some mv) none with
          | some m => if hi.isSome ∧ l ≤ h ∧ h ≤ m ∧ m ≤ n then some (.slice (some ⟨a.block, a.off + l * z, none⟩) (h - l) (m - l)) else none
          | none => none)
      else if c < top then (match bound? mx (some c) with
        | some m => if (mx.isSome → hi.isSome) ∧ l ≤ h ∧ h ≤ m ∧ m ≤ c then some (.slice (some ⟨a.block, a.off + l * z, none⟩) (h - l) (m - l)) else none
        | none => none)
      else none
    | _, _, _ => none
  | _, _ => none

/-! ## Operations that read the heap -/

def loadV (ag : Option (Bool × Nat)) (p : Value) (s : St) : Option Value := match ag, p with
  | some (true, n), .pointer (some a) => match s.heap a.block with
    | some (.cells vs _) => if a.off + n ≤ vs.length then some (.agg ((vs.drop a.off).take n).toArray) else none
    | _ => none
  | some (false, _), .pointer (some a) => match s.heap a.block with
    | some (.cells vs _) => vs[a.off]?
    | _ => none
  | _, _ => none

def findA (d : TypeDesc) (k : Value) : List (Value × Value) → Nat → Option (Option (Nat × Value))
  | [], _ => some none
  | e :: es, i => match Instr.sameNow d k e.1 with
    | some true => some (some (i, e.2))
    | some false => findA d k es (i + 1)
    | none => none

def entries (x : Value) (s : St) : Option (List (Value × Value)) := match x with
  | .map none => some []
  | .map (some r) => match s.heap r with
    | some (.map es) => some es
    | _ => none
  | _ => none

def lookV (m : Option (TypeDesc × Value)) (x key : Value) (ok : Bool) (s : St) : Option Value := match m with
  | some (d, z) => match entries x s with
    | some es => match findA d key es 0 with
      | some (some (_, v)) => some (if ok then .tuple #[v, .bool true] else v)
      | some none => some (if ok then .tuple #[z, .bool false] else z)
      | none => none
    | none => none
  | none => none

def lenR (P : Program) (t : TypeId) (x : Value) (s : St) : Option Value := match x with
  | .map (some r) => if tIsMap P t then (match s.heap r with
    | some (.map es) => some (.int .i64 es.length)
    | _ => none) else none
  | x => lenV P t x

/-! ## New blocks -/

inductive NewV where
  | ptr
  | slc (l c : Nat)
  | map

def NewV.val : NewV → Nat → Value
  | .ptr, b => .pointer (some ⟨b, 0, none⟩)
  | .slc l c, b => .slice (some ⟨b, 0, none⟩) l c
  | .map, b => .map (some b)

/-- So many cells, a zero value's again and again. -/
def zeros (z : List Value) (n : Nat) : List Value := (List.range n).map fun i => z.getD (i % z.length) undef

def boxN (x : Value) : Option (AObj × NewV) := if data x then some (.cells x.cells.toList false, .ptr) else none
def zeroN (z : Option (List Value)) : Option (AObj × NewV) := z.map fun z => (.cells z false, .ptr)
def bslN (o : Option (TypeId × Nat × Nat × List Value)) (len : Nat) (parts : Array (Nat × Value)) : Option (AObj × NewV) := match o with
  | some (_, n, _, z) => if len * n ≤ 16777216 then (fillV (fun i => some (i * n, n)) (zeros z (len * n)) parts).map fun l => (.cells l false, .slc len len) else none
  | none => none
def mapN (ok : Bool) (r : Option Value) : Option (AObj × NewV) := if ok then (match r with
    | none => some (.map [], .map)
    | some r => (intOf? r).map fun _ => (.map [], .map)) else none
def mslN (o : Option (TypeId × Nat × Nat × List Value)) (l c : Value) : Option (AObj × NewV) := match o, intOf? l, intOf? c with
    | some (_, n, b, z), some l, some c => if 0 ≤ l ∧ l ≤ c ∧ c ≤ 140737488355328 ∧ b * c.toNat ≤ 140737488355328 then some (.cells (zeros z (c.toNat * n)) false, .slc l.toNat c.toNat) else none
    | _, _, _ => none

/-- 'mapA' again, of two types. -/
def mapP (ρ : Operand → Value) (parts : Array (Nat × Operand)) : Array (Nat × Value) := ⟨parts.toList.map fun p => (p.1, ρ p.2)⟩
theorem mapP_eq (ρ : Operand → Value) (parts : Array (Nat × Operand)) : mapP ρ parts = parts.map fun p => (p.1, ρ p.2) := by apply Array.ext'; simp [mapP]

def newA (P : Program) (op : Op) (ρ : Operand → Value) : Option (AObj × NewV) := match op with
  | .alloc t => zeroN (tZero P t)
  | .box _ x => boxN (ρ x)
  | .buildSlice t len parts => bslN (tSlice P t) len (mapP ρ parts)
  | .makeMap t r => mapN (tIsMap P t) (r.map ρ)
  | .makeSlice t l c => mslN (tSlice P t) (ρ l) (ρ c)
  | _ => none

/-! ## Operations that change something -/

def storeW (n : Option Nat) (p v : Value) (k : Post) (s : St) : Prop := match n, p with
  | some n, .pointer (some a) => match s.heap a.block with
    | some (.cells vs t) => data v = true ∧ v.cells.size = n ∧ a.off + n ≤ vs.length ∧ k undef (s.put a.block (.cells (lwr vs a.off v.cells.toList) t))
    | _ => False
  | _, _ => False

def mapPutW (m : Option (TypeDesc × Value)) (x key v : Value) (k : Post) (s : St) : Prop := match m, x with
  | some (d, _), .map (some r) => match s.heap r with
    | some (.map es) => match findA d key es 0 with
      | some (some (i, _)) => k undef (s.put r (.map (es.set i (key, v))))
      | some none => k undef (s.put r (.map (es ++ [(key, v)])))
      | none => False
    | _ => False
  | _, _ => False

def delW (m : Option (TypeDesc × Value)) (x key : Value) (k : Post) (s : St) : Prop := match m, x with
  | some _, .map none => k undef s
  | some (d, _), .map (some r) => match s.heap r with
    | some (.map es) => match findA d key es 0 with
      | some (some (i, _)) => k undef (s.put r (.map (es.eraseIdx i)))
      | some none => k undef s
      | none => False
    | _ => False
  | _, _ => False

/-- A slice's cells. -/
def sliceCells (z : Nat) (x : Value) (s : St) : Option (List Value) := match x with
  | .slice none _ _ => some []
  | .slice (some a) l _ => if l = 0 then some [] else match s.heap a.block with
    | some (.cells vs _) => if a.off + l * z ≤ vs.length then some ((vs.drop a.off).take (l * z)) else none
    | _ => none
  | _ => none

def byteCells (b : ByteArray) : List Value := b.data.toList.map fun x => .int .u8 x.toNat

/-- Is what is appended a number of zero values ('append(s, make(..)...)')? -/
def tZeros (P : Program) (t : TypeId) : Option Bool := match P.underlying t with
  | some (.int _) => some true
  | some _ => some false
  | none => none

/-- What is appended: how many elements, and their cells. -/
def newsA (P : Program) (t : TypeId) (z bytes : Nat) (zero : List Value) (x : Value) (s : St) : Option (Nat × List Value) :=
  match tZeros P t, x with
  | some true, .int _ n => if 0 ≤ n ∧ n * bytes ≤ 140737488355328 ∧ n ≤ 140737488355328 then some (n.toNat, zeros zero (n.toNat * z)) else none
  | some false, .slice a l c => (sliceCells z (.slice a l c) s).map fun cs => (l, cs)
  | some false, .string b => if z = 1 then some (b.size, byteCells b) else none
  | _, _ => none

def grewW (z : Nat) (n : Nat) (cells : List Value) (k : Post) (s : St) : Prop := k (.slice (some ⟨s.next, 0, none⟩) n (top + z)) (s.alloc (.cells cells true))

def appW (z bytes : Nat) (x : Value) (news : Option (Nat × List Value)) (k : Post) (s : St) : Prop := match x, news with
  | .slice none 0 0, some (m, cs) => if m = 0 then k (.slice none 0 0) s else m * bytes ≤ 140737488355328 ∧ m ≤ 140737488355328 ∧ grewW z m cs k s
  | .slice (some a) l c, some (m, cs) => if m = 0 then k (.slice (some a) l c) s else
    (l + m) * bytes ≤ 140737488355328 ∧ l + m ≤ 140737488355328 ∧ match s.heap a.block with
    | some (.cells vs tail) => a.off + l * z ≤ vs.length ∧
      (if c = top + z then
        (if a.off + (l + m) * z ≤ vs.length then k (.slice (some a) (l + m) c) (s.put a.block (.cells (lwr vs (a.off + l * z) cs) tail))
         else grewW z (l + m) ((vs.drop a.off).take (l * z) ++ cs) k s ∧ (tail = true → k (.slice (some a) (l + m) c) (s.put a.block (.cells (lwr vs (a.off + l * z) cs) tail))))
       else c < top ∧ (if l + m ≤ c then a.off + (l + m) * z ≤ vs.length ∧ k (.slice (some a) (l + m) c) (s.put a.block (.cells (lwr vs (a.off + l * z) cs) tail))
         else grewW z (l + m) ((vs.drop a.off).take (l * z) ++ cs) k s))
    | _ => False
  | _, _ => False

/-- 'copy': what is read first; then it is written. -/
def copyW (z : Nat) (dst src : Value) (k : Post) (s : St) : Prop :=
  match (match src with | .string b => if z = 1 then some (b.size, byteCells b) else none | .slice a l c => (sliceCells z (.slice a l c) s).map fun cs => (l, cs) | _ => none), dst with
  | some _, .slice none 0 0 => k (.int .i64 0) s
  | some (m, cs), .slice (some a) l _ => if Nat.min m l = 0 then k (.int .i64 0) s else match s.heap a.block with
    | some (.cells vs tail) => a.off + Nat.min m l * z ≤ vs.length ∧ k (.int .i64 (Nat.min m l)) (s.put a.block (.cells (lwr vs a.off (cs.take (Nat.min m l * z))) tail))
    | _ => False
  | _, _ => False

def clearW (P : Program) (t : TypeId) (x : Value) (k : Post) (s : St) : Prop := match x with
  | .map none => tIsMap P t ∧ k undef s
  | .map (some r) => tIsMap P t ∧ match s.heap r with
    | some (.map _) => k undef (s.put r (.map []))
    | _ => False
  | .slice none _ _ => (tSlice P t).isSome ∧ k undef s
  | .slice (some a) l _ => match tSlice P t with
    | some (_, z, _, zero) => if l = 0 then k undef s else match s.heap a.block with
      | some (.cells vs tail) => a.off + l * z ≤ vs.length ∧ k undef (s.put a.block (.cells (lwr vs a.off (zeros zero (l * z))) tail))
      | _ => False
    | none => False
  | _ => False

/-- 'cap': a row that goes on is known to its end from then on. -/
def capW (P : Program) (t : TypeId) (x : Value) (k : Post) (s : St) : Prop := match tSlice P t, x with
  | some _, .slice none _ c => k (.int .i64 c) s
  | some (_, z, _, _), .slice (some a) l c => if c < top then k (.int .i64 c) s else c = top + z ∧ match s.heap a.block with
    | some (.cells vs tail) => ∀ n, l ≤ n → n ≤ 9223372036854775807 → vs.length ≤ a.off + n * z → (tail = false → vs.length = a.off + n * z) →
        k (.int .i64 n) (s.put a.block (.cells (vs ++ List.replicate (a.off + n * z - vs.length) undef) false))
    | _ => False
  | _, _ => False

/-! ## One operation -/

inductive Cls where
  | p | r | a | e
  deriving DecidableEq

def cls : Op → Cls
  | .move _ | .assign _ | .pick .. | .build .. | .nilCheck _ | .binOp .. | .unOp .. | .convert .. | .makeInterface .. | .makeFunc .. | .fieldAddr .. | .field .. | .indexAddr .. | .index .. | .extract .. => .p
  | .load .. | .lookup .. | .slice .. => .r
  | .alloc _ | .box .. | .buildSlice .. | .makeMap .. | .makeSlice .. => .a
  | .call c => match c.callee with
    | .builtin .len => .r
    | .builtin .min | .builtin .max => .p
    | _ => .e
  | _ => .e

def mapA {α β : Type} (f : α → β) (a : Array α) : Array β := ⟨a.toList.map f⟩
theorem mapA_eq {α β : Type} (f : α → β) (a : Array α) : mapA f a = a.map f := by apply Array.ext'; simp [mapA]
def mkIf (t : TypeId) (ok : Bool) (x : Value) : Option Value := if ok && data x then some (.iface t x) else none
def mkFn (f : FuncId) (n : Nat) (caps : Array Value) : Option Value := if n = 0 && caps.all (fun v => v.oneCell' && data v) then some (.func (.func f) #[] caps) else none

def pureV (P : Program) (op : Op) (ρ : Operand → Value) : Option Value := match op with
  | .move x | .assign x => some (ρ x)
  | .pick c a b => pickV (ρ c) (ρ a) (ρ b)
  | .build t parts => buildV P t (mapP ρ parts)
  | .nilCheck x => nilV (ρ x)
  | .binOp op t x y _ => binV P op t (ρ x) (ρ y)
  | .unOp op _ x => unV op (ρ x)
  | .convert src dst x => convV (P.underlying src).isSome (tInt P dst) (ρ x)
  | .makeInterface t x => mkIf t (tConcrete P t) (ρ x)
  | .makeFunc fn first captured => match fn with
    | .func f => mkFn f first.size (mapA ρ captured)
    | _ => none
  | .fieldAddr t x f => ptrAdd (tField P t f) (ρ x)
  | .field t x f => partV (tField P t f) (ρ x)
  | .indexAddr t x i => idxAddr (tElem P t) (ρ x) (ρ i)
  | .index t x i => idxVal (tIsStr P t) (tElem P t) (ρ x) (ρ i)
  | .extract x i => extV (ρ x) i
  | .call c => match c.callee with
    | .builtin .min => foldV min2 (c.args.toList.map ρ)
    | .builtin .max => foldV max2 (c.args.toList.map ρ)
    | _ => none
  | _ => none

def readV (P : Program) (op : Op) (ρ : Operand → Value) (s : St) : Option Value := match op with
  | .load t a => loadV (tAgg P t) (ρ a) s
  | .lookup t x i ok => lookV (tMap P t) (ρ x) (ρ i) ok s
  | .slice t x lo hi mx => slcV P t (ρ x) (lo.map ρ) (hi.map ρ) (mx.map ρ) s
  | .call c => match c.callee, c.args.toList, c.argTypes.toList with
    | .builtin .len, [x], [t] => lenR P t (ρ x) s
    | _, _, _ => none
  | _ => none

/-- Is it the function of package slices that asks whether two slices overlap (the model answers it itself), and of cells of how many? -/
def tOvl (P : Program) (g : FuncId) : Option Nat := match P.funcs[g]? with
  | some fn => if fn.name != "runtime.NumGoroutine" && fn.origin == "slices.overlaps" && fn.body.isNone && (Extern.allNextRows.lookup fn.name).isNone && (Extern.allGenericRows.lookup fn.name).isNone &&
      (Extern.allTypedRows.lookup fn.name).isNone && (Extern.allRows.lookup fn.name).isNone then (match fn.params.toList with
    | [t, _] => (tSlice P t).map (·.2.1)
    | _ => none) else none
  | none => none
def ovlW (z : Option Nat) (args : List Value) (k : Post) (s : St) : Prop := match z, args with
  | some z, [.slice a la _, .slice b lb _] => match a, b with
    | some a, some b => if la = 0 ∨ lb = 0 then k (.bool false) s else
      if a.block = b.block then k (.bool (decide (a.off < b.off + lb * z) && decide (b.off < a.off + la * z))) s
      else match s.heap a.block, s.heap b.block with
        | some (.cells vs true), some (.cells us _) => a.off + la * z ≤ vs.length ∧ b.off + lb * z ≤ us.length ∧ k (.bool false) s
        | _, _ => False
    | _, _ => k (.bool false) s
  | _, _ => False

/-- A function is called: one that has a body, or one of the few that the model answers itself. -/
def callG (P : Program) (C : CallT) (g : FuncId) (args : List Value) (k : Post) (s : St) : Prop := match hasBody P g with
  | true => C g args k s
  | false => ovlW (tOvl P g) args k s

/-- A function's value is called. -/
def callF (P : Program) (C : CallT) (f : Value) (args : List Value) (k : Post) (s : St) : Prop := match f with
  | .func (.func g) first captured => first.size = 0 ∧ callG P C g (args ++ captured.toList) k s
  | _ => False

/-- A method of an interface's value is called. -/
def callI (P : Program) (C : CallT) (r : Value) (name : String) (args : List Value) (k : Post) (s : St) : Prop := match r with
  | .iface t v => match tMethod P t name with
    | some g => hasBody P g = true ∧ C g (v :: args) k s
    | none => False
  | _ => False

def apdW (P : Program) (o : Option (TypeId × Nat × Nat × List Value)) (u : TypeId) (x y : Value) (k : Post) (s : St) : Prop := match o with
  | some (_, z, b, zero) => appW z b x (newsA P u z b zero y s) k s
  | none => False
def cpyW (o : Option (TypeId × Nat × Nat × List Value)) (x y : Value) (k : Post) (s : St) : Prop := match o with
  | some (_, z, _, _) => copyW z x y k s
  | none => False

def callW (P : Program) (C : CallT) (c : Call) (ρ : Operand → Value) (k : Post) (s : St) : Prop := match c.callee with
  | .builtin b => match b, c.args.toList, c.argTypes.toList with
    | .append, [x, y], [t, u] => apdW P (tSlice P t) u (ρ x) (ρ y) k s
    | .copy, [x, y], t :: _ => cpyW (tSlice P t) (ρ x) (ρ y) k s
    | .delete, [x, y], t :: _ => delW (tMap P t) (ρ x) (ρ y) k s
    | .clear, [x], [t] => clearW P t (ρ x) k s
    | .cap, [x], [t] => capW P t (ρ x) k s
    | _, _, _ => False
  | .value f => callF P C (ρ f) (c.args.toList.map ρ) k s
  | .invoke r name => callI P C (ρ r) name (c.args.toList.map ρ) k s

def effW (P : Program) (C : CallT) (op : Op) (ρ : Operand → Value) (k : Post) (s : St) : Prop := match op with
  | .store t a x => storeW (tSize P t) (ρ a) (ρ x) k s
  | .mapUpdate t m key x | .insert t m key x => mapPutW (tMap P t) (ρ m) (ρ key) (ρ x) k s
  | .call c => callW P C c ρ k s
  | _ => False

/-- A block is made. -/
def newW (o : Option (AObj × NewV)) (k : Post) (s : St) : Prop := match o with
  | some (x, n) => k (n.val s.next) (s.alloc x)
  | none => False

def opW (P : Program) (C : CallT) (op : Op) (ρ : Operand → Value) (k : Post) (s : St) : Prop := match cls op with
  | .p => bindO (pureV P op ρ) k s
  | .r => bindO (readV P op ρ s) k s
  | .a => newW (newA P op ρ) k s
  | .e => effW P C op ρ k s

/-! ## Code -/

/-- A frame: what each tmp holds. -/
abbrev Fr := Nat → Value

inductive Ex where
  | normal
  | exit (id : Nat)
  | ret

abbrev CPost := Ex → Fr → St → Prop

def setV (A : Nat → Value) (d : Nat) (v : Value) : Nat → Value := fun i => match Nat.beq i d with
  | true => v
  | false => A i
def putA (N : Nat) (A : Fr) (dst : Option Tmp) (v : Value) : Fr := match dst with
  | some d => match Nat.blt d N with
    | true => setV A d v
    | false => A
  | none => A

def boolIs (want : Bool) (v : Value) : Option Bool := match v with
  | .bool b => some (b == want)
  | .chan none => some false
  | _ => none

def wantedA (ops : Array Oper) (A : Fr) (g : Option (Nat × Bool)) : Option Bool := match g with
  | none => some true
  | some (j, want) => match (ops[j]?).bind (·.dst) with
    | some d => boolIs want (A d)
    | none => none

/-- Where it is wanted. -/
def gW (w : Option Bool) (X : Post → St → Prop) (k : Post) (s : St) : Prop := match w with
  | some true => X k s
  | some false => k (.chan none) s
  | none => False
def stepW (g : Option (Nat × Bool)) (w : Option Bool) (X : Post → St → Prop) (k : Post) (s : St) : Prop := match g with
  | none => X k s
  | some _ => gW w X k s
theorem stepW_eq {g : Option (Nat × Bool)} {w : Option Bool} {X : Post → St → Prop} {k : Post} {s : St} (h : g = none → w = some true) : stepW g w X k s = gW w X k s := by
  cases g with
  | none => rw [h rfl]; rfl
  | some _ => rfl
def gO (w : Option Bool) (x : Option Value) : Option Value := match w with
  | some true => x
  | some false => some (.chan none)
  | none => none
def optW (o : Option Value) (k : Value → Prop) : Prop := match o with
  | some v => k v
  | none => False
def chkW (w : Option Bool) (p q : Prop) : Prop := match w with
  | some true => p ∧ q
  | some false => q
  | none => False

def evOps (P : Program) (C : CallT) (N : Nat) (ops : Array Oper) (K : Fr → St → Prop) : List Oper → Fr → St → Prop
  | [], A, s => K A s
  | o :: r, A, s => stepW o.guard (wantedA ops A o.guard) (opW P C o.op (opd A)) (fun v s' => evOps P C N ops K r (putA N A o.dst v) s') s

def inL (i : Nat) : List Nat → Bool
  | [] => false
  | x :: r => match Nat.beq i x with
    | true => true
    | false => inL i r
def wipe (l : List Nat) (A : Fr) : Fr := fun i => match inL i l with
  | true => undef
  | false => A i
def toL (N : Nat) (A : Fr) : List Value := (List.range N).map A
def ofL (l : List Value) : Fr := fun i => l.getD i undef

end Go.Zz
