/-
  NARROWER THAN 'FOR EVERY INPUT', by the rows' own cells (each row's printed sentence says how): ForecastKept: laid · ForecastRefused: laid · ForecastMore: laid · ForecastFalls: laid · ForecastStill: laid · ForecastNone: laid.
  DERIVED. THE GIVEN ROWS OF THIS SEAT. 6 by the template 'for every input the law returns true; each argument reads behind the call as it read before'; 0 by the template 'total and deterministic' (their statements: YtnghaapdoanabaaGreatDoorTotals.lean).
  GIVEN WITH THE SEED: the statements are not yours to turn. If you find one false, say at which input.
  Laid BY PROGRAM, IN A SANDBOX (cutbox-rows.mjs): the forced cells as the released guide's own fill.sh prints them over the translation 3f6ec4c7ad033213… (all of the seat's roots in one cut). By AI agents, Wed Nov 11 2026. No macro, syntax, notation, axiom, sorry.
-/
import Derived.Test.YtnghaapdoanabaaGreatDoorChecked
import GoSem.Claim
import GoSem.ClaimJoined
import GoSem.ClaimMapViews
import Derived.JoinedTies
import Derived.KernelRfl
namespace Go.Proofs.YtnghaapdoanabaaGreatDoor
/- THE CELL 'sum', in the pinned program and in every row, IS THE sha256 OF THE DUMP (.gsa) THAT YtnghaapdoanabaaGreatDoorProg.lean LOADS. Nothing in Lean hashes anything: it is a label: what it is worth is what the hold of that sum in a sandbox is worth. -/
noncomputable def Tryz.pinned : Pinned := { name := "ytnghaapdoanabaagreatdoor", sum := "3f6ec4c7ad03321354ba80b294791ea6bc41ed3bf44133649f68c540167d5c62", checked := Tryz.checked }
namespace Rows
def none {H : Type} : Left H := { results := [], args := [] }

/- WHAT THE LISTED PACKAGE-LEVEL VARIABLES READ AS WHEN THE CALL BEGINS. Each datum BY PROGRAM (the guide's laid-datum.mjs) off the statement by which the dump's own 'gosem.cut.vars' lays the variable. In a bare row this is a premise. The card (YtnghaapdoanabaaGreatDoorCards.lean) ties it to the program's text. -/
def laid_erewhile_mind_kinds {H : Type} : DataW H := .iface "func table" (.map [(.int .i64 1, .iface "func" (.lit (.string [40, 42, 101, 114, 101, 119, 104, 105, 108, 101, 47, 109, 105, 110, 100, 46, 77, 105, 110, 100, 41, 46, 119, 114, 105, 116, 101]))), (.int .i64 2, .iface "func" (.lit (.string [40, 42, 101, 114, 101, 119, 104, 105, 108, 101, 47, 109, 105, 110, 100, 46, 77, 105, 110, 100, 41, 46, 119, 114, 105, 116, 101]))), (.int .i64 3, .iface "func" (.lit (.string [40, 42, 101, 114, 101, 119, 104, 105, 108, 101, 47, 109, 105, 110, 100, 46, 77, 105, 110, 100, 41, 46, 119, 114, 105, 116, 101]))), (.int .i64 4, .iface "func" (.lit (.string [101, 114, 101, 119, 104, 105, 108, 101, 47, 109, 105, 110, 100, 46, 107, 105, 110, 100, 115, 36, 49]))), (.int .i64 5, .iface "func" (.lit (.string [101, 114, 101, 119, 104, 105, 108, 101, 47, 109, 105, 110, 100, 46, 107, 105, 110, 100, 115, 36, 50]))), (.int .i64 6, .iface "func" (.lit (.string [101, 114, 101, 119, 104, 105, 108, 101, 47, 109, 105, 110, 100, 46, 107, 105, 110, 100, 115, 36, 51]))), (.int .i64 7, .iface "func" (.lit (.string [101, 114, 101, 119, 104, 105, 108, 101, 47, 109, 105, 110, 100, 46, 107, 105, 110, 100, 115, 36, 52]))), (.int .i64 8, .iface "func" (.lit (.string [101, 114, 101, 119, 104, 105, 108, 101, 47, 109, 105, 110, 100, 46, 107, 105, 110, 100, 115, 36, 53])))])

/-- 'erewhilelaw65.ForecastKept': WHATEVER THE INPUT: true; the input reads as it did. -/
def forecastKeptSpec : ChangeSpec := { name := "forecastKept", fn := fun _ => fun
  | [d1, d2, d3] => { results := [.lit (.bool true)], args := [d1, d2, d3] }
  | _ => none }
def forecastKeptRow : OpenClaim := { program := "ytnghaapdoanabaagreatdoor", sum := "3f6ec4c7ad03321354ba80b294791ea6bc41ed3bf44133649f68c540167d5c62", func := "erewhile/erewhilelaw65.ForecastKept", spec := "forecastKept", unfollowed := true, recurses := true, named := ["erewhile/mind.kinds"], apart := false, laid := [("erewhile/mind.kinds", laid_erewhile_mind_kinds)] }
def ForecastKeptSaid : Prop := forecastKeptRow.holds Tryz.pinned (OpenSpec.ofChange forecastKeptSpec)

/-- ITS FALSE NEIGHBOUR: 'it returns false'. Refute it at one input. -/
def forecastKeptWrong : ChangeSpec := { name := "forecastKept", fn := fun _ => fun
  | [d1, d2, d3] => { results := [.lit (.bool false)], args := [d1, d2, d3] }
  | _ => none }
def ForecastKeptWrongFalsely : Prop := forecastKeptRow.holds Tryz.pinned (OpenSpec.ofChange forecastKeptWrong)

/-- 'erewhilelaw65.ForecastRefused': WHATEVER THE INPUT: true; the input reads as it did. -/
def forecastRefusedSpec : ChangeSpec := { name := "forecastRefused", fn := fun _ => fun
  | [d1, d2, d3, d4, d5] => { results := [.lit (.bool true)], args := [d1, d2, d3, d4, d5] }
  | _ => none }
def forecastRefusedRow : OpenClaim := { program := "ytnghaapdoanabaagreatdoor", sum := "3f6ec4c7ad03321354ba80b294791ea6bc41ed3bf44133649f68c540167d5c62", func := "erewhile/erewhilelaw65.ForecastRefused", spec := "forecastRefused", unfollowed := true, recurses := true, named := ["erewhile/mind.kinds"], apart := false, laid := [("erewhile/mind.kinds", laid_erewhile_mind_kinds)] }
def ForecastRefusedSaid : Prop := forecastRefusedRow.holds Tryz.pinned (OpenSpec.ofChange forecastRefusedSpec)

/-- ITS FALSE NEIGHBOUR: 'it returns false'. Refute it at one input. -/
def forecastRefusedWrong : ChangeSpec := { name := "forecastRefused", fn := fun _ => fun
  | [d1, d2, d3, d4, d5] => { results := [.lit (.bool false)], args := [d1, d2, d3, d4, d5] }
  | _ => none }
def ForecastRefusedWrongFalsely : Prop := forecastRefusedRow.holds Tryz.pinned (OpenSpec.ofChange forecastRefusedWrong)

/-- 'erewhilelaw65.ForecastMore': WHATEVER THE INPUT: true; the input reads as it did. -/
def forecastMoreSpec : ChangeSpec := { name := "forecastMore", fn := fun _ => fun
  | [d1, d2, d3, d4, d5, d6] => { results := [.lit (.bool true)], args := [d1, d2, d3, d4, d5, d6] }
  | _ => none }
def forecastMoreRow : OpenClaim := { program := "ytnghaapdoanabaagreatdoor", sum := "3f6ec4c7ad03321354ba80b294791ea6bc41ed3bf44133649f68c540167d5c62", func := "erewhile/erewhilelaw65.ForecastMore", spec := "forecastMore", unfollowed := true, recurses := true, named := ["erewhile/mind.kinds"], apart := false, laid := [("erewhile/mind.kinds", laid_erewhile_mind_kinds)] }
def ForecastMoreSaid : Prop := forecastMoreRow.holds Tryz.pinned (OpenSpec.ofChange forecastMoreSpec)

/-- ITS FALSE NEIGHBOUR: 'it returns false'. Refute it at one input. -/
def forecastMoreWrong : ChangeSpec := { name := "forecastMore", fn := fun _ => fun
  | [d1, d2, d3, d4, d5, d6] => { results := [.lit (.bool false)], args := [d1, d2, d3, d4, d5, d6] }
  | _ => none }
def ForecastMoreWrongFalsely : Prop := forecastMoreRow.holds Tryz.pinned (OpenSpec.ofChange forecastMoreWrong)

/-- 'erewhilelaw65.ForecastFalls': WHATEVER THE INPUT: true; the input reads as it did. -/
def forecastFallsSpec : ChangeSpec := { name := "forecastFalls", fn := fun _ => fun
  | [d1, d2, d3] => { results := [.lit (.bool true)], args := [d1, d2, d3] }
  | _ => none }
def forecastFallsRow : OpenClaim := { program := "ytnghaapdoanabaagreatdoor", sum := "3f6ec4c7ad03321354ba80b294791ea6bc41ed3bf44133649f68c540167d5c62", func := "erewhile/erewhilelaw65.ForecastFalls", spec := "forecastFalls", unfollowed := true, recurses := true, named := ["erewhile/mind.kinds"], apart := false, laid := [("erewhile/mind.kinds", laid_erewhile_mind_kinds)] }
def ForecastFallsSaid : Prop := forecastFallsRow.holds Tryz.pinned (OpenSpec.ofChange forecastFallsSpec)

/-- ITS FALSE NEIGHBOUR: 'it returns false'. Refute it at one input. -/
def forecastFallsWrong : ChangeSpec := { name := "forecastFalls", fn := fun _ => fun
  | [d1, d2, d3] => { results := [.lit (.bool false)], args := [d1, d2, d3] }
  | _ => none }
def ForecastFallsWrongFalsely : Prop := forecastFallsRow.holds Tryz.pinned (OpenSpec.ofChange forecastFallsWrong)

/-- 'erewhilelaw65.ForecastStill': WHATEVER THE INPUT: true; the input reads as it did. -/
def forecastStillSpec : ChangeSpec := { name := "forecastStill", fn := fun _ => fun
  | [d1, d2, d3, d4] => { results := [.lit (.bool true)], args := [d1, d2, d3, d4] }
  | _ => none }
def forecastStillRow : OpenClaim := { program := "ytnghaapdoanabaagreatdoor", sum := "3f6ec4c7ad03321354ba80b294791ea6bc41ed3bf44133649f68c540167d5c62", func := "erewhile/erewhilelaw65.ForecastStill", spec := "forecastStill", unfollowed := true, recurses := true, named := ["erewhile/mind.kinds"], apart := false, laid := [("erewhile/mind.kinds", laid_erewhile_mind_kinds)] }
def ForecastStillSaid : Prop := forecastStillRow.holds Tryz.pinned (OpenSpec.ofChange forecastStillSpec)

/-- ITS FALSE NEIGHBOUR: 'it returns false'. Refute it at one input. -/
def forecastStillWrong : ChangeSpec := { name := "forecastStill", fn := fun _ => fun
  | [d1, d2, d3, d4] => { results := [.lit (.bool false)], args := [d1, d2, d3, d4] }
  | _ => none }
def ForecastStillWrongFalsely : Prop := forecastStillRow.holds Tryz.pinned (OpenSpec.ofChange forecastStillWrong)

/-- 'erewhilelaw65.ForecastNone': WHATEVER THE INPUT: true; the input reads as it did. -/
def forecastNoneSpec : ChangeSpec := { name := "forecastNone", fn := fun _ => fun
  | [d1, d2, d3, d4, d5] => { results := [.lit (.bool true)], args := [d1, d2, d3, d4, d5] }
  | _ => none }
def forecastNoneRow : OpenClaim := { program := "ytnghaapdoanabaagreatdoor", sum := "3f6ec4c7ad03321354ba80b294791ea6bc41ed3bf44133649f68c540167d5c62", func := "erewhile/erewhilelaw65.ForecastNone", spec := "forecastNone", unfollowed := true, recurses := true, named := ["erewhile/mind.kinds"], apart := false, laid := [("erewhile/mind.kinds", laid_erewhile_mind_kinds)] }
def ForecastNoneSaid : Prop := forecastNoneRow.holds Tryz.pinned (OpenSpec.ofChange forecastNoneSpec)

/-- ITS FALSE NEIGHBOUR: 'it returns false'. Refute it at one input. -/
def forecastNoneWrong : ChangeSpec := { name := "forecastNone", fn := fun _ => fun
  | [d1, d2, d3, d4, d5] => { results := [.lit (.bool false)], args := [d1, d2, d3, d4, d5] }
  | _ => none }
def ForecastNoneWrongFalsely : Prop := forecastNoneRow.holds Tryz.pinned (OpenSpec.ofChange forecastNoneWrong)

/- THE SECOND FORM. 'bulk': how many values and letters a reading holds, each counted each time it is reached (what is shared counts as often as it is met; a slice's spare places count too). A statement '..UptoSaid' is the law's where the arguments, and the package variables that the reading takes, are together of bulk at most 1048576: NARROWER than '..Said'. Prove '..Said' where nothing that the law and all that it calls make is longer than what came in: it says more and counts as full. Else prove '..UptoSaid'. A law counts once. -/
mutual
def uptoBulk {H : Type} : DataW H → Nat
  | .lit (.string bytes) => bytes.length + 1
  | .lit _ => 1
  | .nil => 1
  | .ptr d => uptoBulk d + 1
  | .slice elems spare => uptoBulkAll elems + uptoBulkAll spare + 1
  | .agg parts => uptoBulkAll parts + 1
  | .iface _ d => uptoBulk d + 1
  | .map entries => uptoBulkEntries entries + 1
  | .held _ => 1
def uptoBulkAll {H : Type} : List (DataW H) → Nat
  | [] => 0
  | d :: r => uptoBulk d + uptoBulkAll r
def uptoBulkEntries {H : Type} : List (Lit × DataW H) → Nat
  | [] => 0
  | x :: r => uptoBulkEntry x + uptoBulkEntries r
def uptoBulkEntry {H : Type} : Lit × DataW H → Nat
  | (.string bytes, d) => bytes.length + uptoBulk d + 1
  | (_, d) => uptoBulk d + 1
 end
def uptoSmall : (H : Type) → List (DataW H) → Bool := fun _ ds => decide (uptoBulkAll ds ≤ 1048576)
def OpenSpec.upto (s : _root_.Go.ChangeSpec) : _root_.Go.OpenSpec := { _root_.Go.OpenSpec.ofChange s with cond := some uptoSmall }

/-- 'erewhilelaw65.ForecastKept', WHERE WHAT IT READS IS OF BULK AT MOST 1048576: true; the input reads as it did. -/
def forecastKeptUptoRow : OpenClaim := { program := "ytnghaapdoanabaagreatdoor", sum := "3f6ec4c7ad03321354ba80b294791ea6bc41ed3bf44133649f68c540167d5c62", func := "erewhile/erewhilelaw65.ForecastKept", spec := "forecastKept", unfollowed := true, recurses := true, named := ["erewhile/mind.kinds"], apart := false, laid := [("erewhile/mind.kinds", laid_erewhile_mind_kinds)], narrowed := true }
def ForecastKeptUptoSaid : Prop := forecastKeptUptoRow.holds Tryz.pinned (OpenSpec.upto forecastKeptSpec)

/-- 'erewhilelaw65.ForecastRefused', WHERE WHAT IT READS IS OF BULK AT MOST 1048576: true; the input reads as it did. -/
def forecastRefusedUptoRow : OpenClaim := { program := "ytnghaapdoanabaagreatdoor", sum := "3f6ec4c7ad03321354ba80b294791ea6bc41ed3bf44133649f68c540167d5c62", func := "erewhile/erewhilelaw65.ForecastRefused", spec := "forecastRefused", unfollowed := true, recurses := true, named := ["erewhile/mind.kinds"], apart := false, laid := [("erewhile/mind.kinds", laid_erewhile_mind_kinds)], narrowed := true }
def ForecastRefusedUptoSaid : Prop := forecastRefusedUptoRow.holds Tryz.pinned (OpenSpec.upto forecastRefusedSpec)

/-- 'erewhilelaw65.ForecastMore', WHERE WHAT IT READS IS OF BULK AT MOST 1048576: true; the input reads as it did. -/
def forecastMoreUptoRow : OpenClaim := { program := "ytnghaapdoanabaagreatdoor", sum := "3f6ec4c7ad03321354ba80b294791ea6bc41ed3bf44133649f68c540167d5c62", func := "erewhile/erewhilelaw65.ForecastMore", spec := "forecastMore", unfollowed := true, recurses := true, named := ["erewhile/mind.kinds"], apart := false, laid := [("erewhile/mind.kinds", laid_erewhile_mind_kinds)], narrowed := true }
def ForecastMoreUptoSaid : Prop := forecastMoreUptoRow.holds Tryz.pinned (OpenSpec.upto forecastMoreSpec)

/-- 'erewhilelaw65.ForecastFalls', WHERE WHAT IT READS IS OF BULK AT MOST 1048576: true; the input reads as it did. -/
def forecastFallsUptoRow : OpenClaim := { program := "ytnghaapdoanabaagreatdoor", sum := "3f6ec4c7ad03321354ba80b294791ea6bc41ed3bf44133649f68c540167d5c62", func := "erewhile/erewhilelaw65.ForecastFalls", spec := "forecastFalls", unfollowed := true, recurses := true, named := ["erewhile/mind.kinds"], apart := false, laid := [("erewhile/mind.kinds", laid_erewhile_mind_kinds)], narrowed := true }
def ForecastFallsUptoSaid : Prop := forecastFallsUptoRow.holds Tryz.pinned (OpenSpec.upto forecastFallsSpec)

/-- 'erewhilelaw65.ForecastStill', WHERE WHAT IT READS IS OF BULK AT MOST 1048576: true; the input reads as it did. -/
def forecastStillUptoRow : OpenClaim := { program := "ytnghaapdoanabaagreatdoor", sum := "3f6ec4c7ad03321354ba80b294791ea6bc41ed3bf44133649f68c540167d5c62", func := "erewhile/erewhilelaw65.ForecastStill", spec := "forecastStill", unfollowed := true, recurses := true, named := ["erewhile/mind.kinds"], apart := false, laid := [("erewhile/mind.kinds", laid_erewhile_mind_kinds)], narrowed := true }
def ForecastStillUptoSaid : Prop := forecastStillUptoRow.holds Tryz.pinned (OpenSpec.upto forecastStillSpec)

/-- 'erewhilelaw65.ForecastNone', WHERE WHAT IT READS IS OF BULK AT MOST 1048576: true; the input reads as it did. -/
def forecastNoneUptoRow : OpenClaim := { program := "ytnghaapdoanabaagreatdoor", sum := "3f6ec4c7ad03321354ba80b294791ea6bc41ed3bf44133649f68c540167d5c62", func := "erewhile/erewhilelaw65.ForecastNone", spec := "forecastNone", unfollowed := true, recurses := true, named := ["erewhile/mind.kinds"], apart := false, laid := [("erewhile/mind.kinds", laid_erewhile_mind_kinds)], narrowed := true }
def ForecastNoneUptoSaid : Prop := forecastNoneUptoRow.holds Tryz.pinned (OpenSpec.upto forecastNoneSpec)

end Rows
end Go.Proofs.YtnghaapdoanabaaGreatDoor
