/- The calculus: regions that leave their order open, code, calls. -/
import Derived.Test.YtcjoihkdaoflfaaGreatC
import Derived.OrdersIn
set_option linter.all false
namespace Go.Zz
open Go

/-! ## A region that leaves its order open -/

/-- What must come ahead of an operation in every order, as bits. -/
def maskOf (acc : List Nat) (o : Oper) : Nat :=
  o.after.toList.foldl (fun m e => if Region.binds .any e then m ||| (1 <<< e.on) ||| acc.getD e.on 0 else m) 0
def hasBit (bef : List Nat) (i j : Nat) : Bool := (bef.getD i 0).testBit j

/-- The last number below n of which p holds. -/
def lastB (p : Nat → Bool) : Nat → Option Nat
  | 0 => none
  | n + 1 => if p n then some n else lastB p n

/-- The tmps that an operation reads. -/
def tmpsOf (o : Oper) : List Tmp := o.op.operands.toList.filterMap fun | .tmp t => some t | _ => none
def tmpsAt (L : List Oper) (i : Nat) : List Tmp := match L[i]? with
  | some o => tmpsOf o
  | none => []
def dstAt (L : List Oper) (i : Nat) : Option Tmp := (L[i]?).bind (·.dst)

/-- Which operation ahead of i has last written a tmp. -/
def srcOf (L : List Oper) (i d : Nat) : Option Nat := lastB (fun j => dstAt L j == some d) i

inductive Kind where
  | p   -- its value hangs on its operands alone
  | r   -- it reads the memory
  | a   -- it makes a block of zeros
  | e
  deriving DecidableEq

def kindOf (o : Oper) : Kind := match cls o.op with
  | .p => .p
  | .r => .r
  | .a => match o.op with
    | .alloc _ => .a
    | _ => .e
  | .e => .e
def isK (k : Kind) (L : List Oper) (i : Nat) : Bool := match L[i]? with
  | some o => kindOf o == k
  | none => false

/-- The operations on which one leans: those that wrote what it reads, and its guard. -/
def srcs (L : List Oper) (i : Nat) : List Nat := (tmpsAt L i).filterMap (srcOf L i) ++ (match L[i]? with
  | some o => (match o.guard with | some (j, _) => [j] | none => [])
  | none => [])

/-- 'es': the operations that change something, in their order. 'av': the gap in which another is done in the calculus, where gap k lies ahead of change k. 'hi': how many changes can come ahead of it. -/
structure Plan where
  bef : List Nat
  es : List Nat
  hi : List Nat
  av : List Nat

/-- What is handed to the calculus, of a function: how many tmps its frame has, which of them are dead at a loop's head, the plans of its regions. -/
structure Hint where
  N : Nat
  wip : Nat → List Nat
  plan : Nat → Plan

/-- Edges point back; changes are in order. -/
def ok1 (L : List Oper) (p : Plan) : Bool :=
  ((List.range L.length).all fun i => match L[i]? with
    | some o => Nat.beq (p.bef.getD i 0) (maskOf p.bef o) && o.after.toList.all fun e => !Region.binds .any e || Nat.blt e.on i
    | none => true) &&
  ((List.range p.es.length).all fun l => (List.range l).all fun k => hasBit p.bef (p.es.getD l 0) (p.es.getD k 0))

/-- Tmps are read and written in order. -/
def ok2 (L : List Oper) (p : Plan) : Bool :=
  (List.range L.length).all fun y => (List.range y).all fun x => hasBit p.bef y x ||
    (match dstAt L x with
      | some d => !(tmpsAt L y).contains d && !(dstAt L y == some d)
      | none => true) &&
    (match dstAt L y with
      | some d => !(tmpsAt L x).contains d
      | none => true)

/-- Guards. -/
def ok3 (L : List Oper) (p : Plan) : Bool :=
  (List.range L.length).all fun i => match L[i]? with
    | some o => (match o.guard with
      | none => true
      | some (j, _) => decide (j < i) && hasBit p.bef i j && !isK .a L i && !isK .a L j && (match dstAt L j with
        | some d => (List.range L.length).all fun k => k == j || !(dstAt L k == some d)
        | none => false))
    | none => true

/-- Each operation has its gap, and there what it leans on. -/
def ok4 (L : List Oper) (p : Plan) : Bool :=
  let m := p.es.length
  (List.range L.length).all fun i => isK .e L i ||
    (decide (p.av.getD i 0 ≤ m) && decide (p.hi.getD i 0 ≤ m) &&
     (p.hi.getD i 0 == m || hasBit p.bef (p.es.getD (p.hi.getD i 0) 0) i) &&
     (if isK .a L i then p.av.getD i 0 == p.hi.getD i 0 else
      ((List.range (p.av.getD i 0)).all fun k => hasBit p.bef i (p.es.getD k 0)) &&
      ((srcs L i).all fun j => if isK .e L j then (p.es.take (p.av.getD i 0)).contains j else !isK .a L j && decide (p.av.getD j 0 ≤ p.av.getD i 0))))

/-- A change leans on what is done. -/
def ok5 (L : List Oper) (p : Plan) : Bool :=
  (List.range p.es.length).all fun k => (srcs L (p.es.getD k 0)).all fun j => if isK .e L j then (p.es.take k).contains j else decide (p.av.getD j 0 ≤ k)

/-- Every tmp that is written lies in the frame. -/
def ok6 (L : List Oper) (n : Nat) : Bool := L.all fun o => match o.dst with
  | some d => Nat.blt d n
  | none => true

/-- A block of zeros can be made at any time. -/
def ok7 (P : Program) (L : List Oper) : Bool := L.all fun o => !(kindOf o == .a) || (newA P o.op (fun _ => undef)).isSome

def okPlan (L : List Oper) (p : Plan) (n : Nat) : Bool :=
  p.es == (List.range L.length).filter (isK .e L) && ok1 L p && ok2 L p && ok3 L p && ok4 L p && ok5 L p && ok6 L n

/-- The operands of operation i: out of what the operations gave, or of the frame. -/
def opdD (L : List Oper) (vals : Nat → Value) (A : Fr) (i : Nat) : Operand → Value
  | .tmp d => if (tmpsAt L i).contains d then (match srcOf L i d with
    | some j => vals j
    | none => A d) else undef
  | x => opd A x

def wantedD (vals : Nat → Value) (g : Option (Nat × Bool)) : Option Bool := match g with
  | none => some true
  | some (j, want) => boolIs want (vals j)

def valD (P : Program) (o : Oper) (ρ : Operand → Value) (s : St) : Option Value := match kindOf o with
  | .p => pureV P o.op ρ
  | .r => readV P o.op ρ s
  | _ => none

/-- What has been read is read so again. -/
def chksD (P : Program) (L : List Oper) (A : Fr) (K : Prop) (vals : Nat → Value) (s : St) : List Nat → Prop
  | [] => K
  | i :: r => match L[i]? with
    | some o => chkW (wantedD vals o.guard) (readV P o.op (opdD L vals A i) s = some (vals i)) (chksD P L A K vals s r)
    | none => False

/-- The operations of a gap that only look, one by one. -/
def runsD (P : Program) (L : List Oper) (A : Fr) (K : (Nat → Value) → Prop) (s : St) : List Nat → (Nat → Value) → Prop
  | [], vals => K vals
  | i :: r, vals => match L[i]? with
    | some o => optW (gO (wantedD vals o.guard) (valD P o (opdD L vals A i) s)) (fun v => runsD P L A K s r (setV vals i v))
    | none => False

/-- The blocks of zeros of a gap. -/
def alsD (P : Program) (L : List Oper) (K : (Nat → Value) → St → Prop) : List Nat → (Nat → Value) → St → Prop
  | [], vals, s => K vals s
  | i :: r, vals, s => match L[i]? with
    | some o => newW (newA P o.op (fun _ => undef)) (fun v s' => alsD P L K r (setV vals i v) s') s
    | none => False

def gapRuns (L : List Oper) (p : Plan) (g : Nat) : List Nat := (List.range L.length).filter fun i => (isK .p L i || isK .r L i) && p.av.getD i 0 == g
def gapAls (L : List Oper) (p : Plan) (g : Nat) : List Nat := (List.range L.length).filter fun i => isK .a L i && p.av.getD i 0 == g
def gapChks (L : List Oper) (p : Plan) (g : Nat) : List Nat := (List.range L.length).filter fun i => isK .r L i && decide (p.av.getD i 0 < g) && decide (g ≤ p.hi.getD i 0)

/-- From gap g on, with the changes 'es' still to come. -/
def evGaps (P : Program) (C : CallT) (L : List Oper) (p : Plan) (A : Fr) (K : (Nat → Value) → St → Prop) : List Nat → Nat → (Nat → Value) → St → Prop
  | [], g, vals, s => chksD P L A (runsD P L A (fun vals => alsD P L K (gapAls L p g) vals s) s (gapRuns L p g) vals) vals s (gapChks L p g)
  | e :: es, g, vals, s => chksD P L A (runsD P L A (fun vals => alsD P L (fun vals s => match L[e]? with
      | some o => stepW o.guard (wantedD vals o.guard) (opW P C o.op (opdD L vals A e)) (fun v s' => evGaps P C L p A K es (g + 1) (setV vals e v) s') s
      | none => False) (gapAls L p g) vals s) s (gapRuns L p g) vals) vals s (gapChks L p g)

def finD (N : Nat) (L : List Oper) (vals : Nat → Value) (A : Fr) : Nat → Fr
  | 0 => A
  | i + 1 => putA N (finD N L vals A i) (dstAt L i) (vals i)

def evDraw (P : Program) (C : CallT) (N : Nat) (p : Plan) (L : List Oper) (K : Fr → St → Prop) (A : Fr) (s : St) : Prop := match okPlan L p N && ok7 P L with
  | true => evGaps P C L p A (fun vals s' => K (finD N L vals A L.length) s') p.es 0 (fun _ => undef) s
  | false => False

/-! ## Code -/

/-- (That 'evOps' is named here and below has to do with the order in which Lean unfolds: what holds of code is unfolded ahead of what holds of an operation.) -/
def kSeq (k : Fr → St → Prop) (K : CPost) : CPost := (fun _ => fun ex A s => match ex with
  | .normal => k A s
  | .exit j => K (.exit j) A s
  | .ret => K .ret A s) evOps
def kBlock (id : Nat) (K : CPost) : CPost := (fun _ => fun ex A s => match ex with
  | .exit j => match Nat.beq j id with
    | true => K .normal A s
    | false => K (.exit j) A s
  | .normal => K .normal A s
  | .ret => K .ret A s) evOps
def kLoop (H : Hint) (cur : Nat) (I : List Value → St → Prop) (K : CPost) : CPost := (fun _ => fun ex A s => match ex with
  | .normal => I (toL H.N (wipe (H.wip cur) A)) s
  | .exit j => K (.exit j) (ofL (toL H.N (wipe (H.wip cur) A))) s
  | .ret => K .ret (ofL (toL H.N (wipe (H.wip cur) A))) s) evOps
def condW (v : Value) (x y : Prop) : Prop := match v with
  | .bool true => x
  | .bool false => y
  | _ => False

/-- A loop is the least solution: whatever holds wherever a round that comes back to it holds. -/
def evC (P : Program) (C : CallT) (H : Hint) : Code → Nat → CPost → Fr → St → Prop
  | .skip, _, K, A, s => K .normal A s
  | .label _, _, K, A, s => K .normal A s
  | .region _ ops false, _, K, A, s => evOps P C H.N ops (K .normal) ops.toList A s
  | .region id ops true, _, K, A, s => evDraw P C H.N (H.plan id) ops.toList (K .normal) A s
  | .seq a b, cur, K, A, s => evC P C H a cur (kSeq (evC P C H b cur K) K) A s
  | .cond c a b, cur, K, A, s => condW (opd A c) (evC P C H a cur K A s) (evC P C H b cur K A s)
  | .block id c, _, K, A, s => evC P C H c id (kBlock id K) A s
  | .loop c, cur, K, A, s => ∀ I : List Value → St → Prop, (∀ l s, evC P C H c cur (kLoop H cur I K) (ofL l) s → I l s) → I (toL H.N (wipe (H.wip cur) A)) s
  | .exit id, _, K, A, s => K (.exit id) A s
  | .ret, _, K, A, s => K .ret A s
  | .scope c, cur, K, A, s => evC P C H c cur K A s
  | _, _, _, _, _ => False

/-! ## Calls -/

def consO (x : Option Value) (r : Option (List Value)) : Option (List Value) := match x, r with
  | some v, some l => some (v :: l)
  | _, _ => none
def retV (l : Option (List Value)) : Option Value := match l with
  | some [v] => some v
  | some vs => some (.tuple vs.toArray)
  | none => none
def resL (P : Program) (A : Fr) (s : St) : List ResultVar → Option (List Value)
  | [] => some []
  | .tmp t :: r => consO (some (A t)) (resL P A s r)
  | .cell a t :: r => consO (loadV (tAgg P t) (A a) s) (resL P A s r)
def resV (P : Program) (fn : Func) (A : Fr) (s : St) : Option Value := retV (resL P A s fn.results.toList)

/-- What a call has made may be forgotten where nobody can know of it. -/
def kEnd (Q : Post) (s : St) (v : Option Value) (s' : St) : Prop := match v with
  | some v => Q v s' ∨ ((∀ b, b < s.next → s'.heap b = s.heap b) ∧ Bel s.next v ∧ Q v s)
  | none => False
def kBody (P : Program) (fn : Func) (Q : Post) (s : St) : CPost := (fun _ => fun ex A s' => match ex with
  | .normal => kEnd Q s (resV P fn A s') s'
  | .ret => kEnd Q s (resV P fn A s') s'
  | .exit _ => False) evOps

def bodyW (P : Program) (C : CallT) (wips : FuncId → Hint) (f : FuncId) (args : List Value) (Q : Post) (s : St) : Prop := match P.funcs[f]? with
  | some fn => match fn.body, Nat.beq (wips f).N (args.length + (fn.ntmps - args.length)) with
    | some c, true => evC P C (wips f) c 0 (kBody P fn Q s) (ofL args) s
    | _, _ => False
  | none => False

/-- What is laid in a function's place: a contract of its own. -/
abbrev Laid := FuncId → Option (List Value → Post → St → Prop)

def MonoC (C : CallT) : Prop := ∀ f args s (Q Q' : Post), (∀ v s, Q v s → Q' v s) → C f args Q s → C f args Q' s

def stepC (P : Program) (wips : FuncId → Hint) (laid : Laid) (C : CallT) : CallT := fun f args Q s => match laid f with
  | some X => X args Q s
  | none => bodyW P C wips f args Q s

/-- A call: the least solution. -/
def calls (P : Program) (wips : FuncId → Hint) (laid : Laid) : CallT := fun f args Q s =>
  ∀ C : CallT, MonoC C → (∀ f args Q s, stepC P wips laid C f args Q s → C f args Q s) → C f args Q s

/-! ## Parts of a function's code -/

def fv (g : FuncId) : Value := .func (.func g) #[] #[]
noncomputable def cF (P : Program) (f : FuncId) : Code := ((P.funcs[f]?).bind (·.body)).getD .skip
noncomputable def cN (P : Program) (f : FuncId) : Func := (P.funcs[f]?).getD default
def cL : Code → Code
  | .seq a _ => a
  | .cond _ a _ => a
  | .block _ a => a
  | .loop a => a
  | .scope a => a
  | c => c
def cR : Code → Code
  | .seq _ b => b
  | .cond _ _ b => b
  | c => c
def lkH {α : Type} (l : List (Nat × α)) (d : α) (n : Nat) : α := match l with
  | [] => d
  | (k, x) :: r => match Nat.beq k n with
    | true => x
    | false => lkH r d n
def LoopC (P : Program) (C : CallT) (H : Hint) (c : Code) (cur : Nat) (K : CPost) (l : List Value) (s : St) : Prop :=
  ∀ I : List Value → St → Prop, (∀ l s, evC P C H c cur (kLoop H cur I K) (ofL l) s → I l s) → I l s

end Go.Zz
