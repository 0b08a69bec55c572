/-
  No cell of these rows narrows 'for every input' (looked for: loops, veiled, ifaces, maps, wideKeys, modest, calm, conditions, laid).
  DERIVED. THE GIVEN ROWS OF THIS SEAT. 4 by the template 'for every input the law returns true; each argument reads behind the call as it read before'; 0 by the template 'total and deterministic' (their statements: YtbmnfifnenajjaaGreatTotals.lean).
  GIVEN WITH THE SEED: the statements are not yours to turn. If you find one false, say at which input.
  Laid BY PROGRAM, IN A SANDBOX (cutbox-rows.mjs): the forced cells as the released guide's own fill.sh prints them over the translation 7712719d8f9908cb… (all of the seat's roots in one cut). By AI agents, Wed Nov 11 2026. No macro, syntax, notation, axiom, sorry.
-/
import Derived.Test.YtbmnfifnenajjaaGreatChecked
import GoSem.Claim
import GoSem.ClaimJoined
import GoSem.ClaimMapViews
import Derived.JoinedTies
import Derived.KernelRfl
namespace Go.Proofs.YtbmnfifnenajjaaGreat
/- THE CELL 'sum', in the pinned program and in every row, IS THE sha256 OF THE DUMP (.gsa) THAT YtbmnfifnenajjaaGreatProg.lean LOADS. Nothing in Lean hashes anything: it is a label: what it is worth is what the hold of that sum in a sandbox is worth. -/
noncomputable def Tryz.pinned : Pinned := { name := "ytbmnfifnenajjaagreat", sum := "7712719d8f9908cbd71b4dd66941d9b88606f4f45d5a060888fcd8ed412604c7", checked := Tryz.checked }
namespace Rows
def none {H : Type} : Left H := { results := [], args := [] }

/-- 'floodgatelaw09.ClosureRuns': WHATEVER THE INPUT: true; the input reads as it did. -/
def closureRunsSpec : ChangeSpec := { name := "closureRuns", fn := fun _ => fun
  | [d1, d2] => { results := [.lit (.bool true)], args := [d1, d2] }
  | _ => none }
def closureRunsRow : OpenClaim := { program := "ytbmnfifnenajjaagreat", sum := "7712719d8f9908cbd71b4dd66941d9b88606f4f45d5a060888fcd8ed412604c7", func := "floodgate/floodgatelaw09.ClosureRuns", spec := "closureRuns", unfollowed := true, recurses := true, apart := false }
def ClosureRunsSaid : Prop := closureRunsRow.holds Tryz.pinned (OpenSpec.ofChange closureRunsSpec)

/-- ITS FALSE NEIGHBOUR: 'it returns false'. Refute it at one input. -/
def closureRunsWrong : ChangeSpec := { name := "closureRuns", fn := fun _ => fun
  | [d1, d2] => { results := [.lit (.bool false)], args := [d1, d2] }
  | _ => none }
def ClosureRunsWrongFalsely : Prop := closureRunsRow.holds Tryz.pinned (OpenSpec.ofChange closureRunsWrong)

/-- 'floodgatelaw09.ClosureOrders': WHATEVER THE INPUT: true; the input reads as it did. -/
def closureOrdersSpec : ChangeSpec := { name := "closureOrders", fn := fun _ => fun
  | [d1, d2, d3] => { results := [.lit (.bool true)], args := [d1, d2, d3] }
  | _ => none }
def closureOrdersRow : OpenClaim := { program := "ytbmnfifnenajjaagreat", sum := "7712719d8f9908cbd71b4dd66941d9b88606f4f45d5a060888fcd8ed412604c7", func := "floodgate/floodgatelaw09.ClosureOrders", spec := "closureOrders", unfollowed := true, recurses := true, apart := false }
def ClosureOrdersSaid : Prop := closureOrdersRow.holds Tryz.pinned (OpenSpec.ofChange closureOrdersSpec)

/-- ITS FALSE NEIGHBOUR: 'it returns false'. Refute it at one input. -/
def closureOrdersWrong : ChangeSpec := { name := "closureOrders", fn := fun _ => fun
  | [d1, d2, d3] => { results := [.lit (.bool false)], args := [d1, d2, d3] }
  | _ => none }
def ClosureOrdersWrongFalsely : Prop := closureOrdersRow.holds Tryz.pinned (OpenSpec.ofChange closureOrdersWrong)

/-- 'floodgatelaw09.ClosurePaths': WHATEVER THE INPUT: true; the input reads as it did. -/
def closurePathsSpec : ChangeSpec := { name := "closurePaths", fn := fun _ => fun
  | [d1, d2, d3] => { results := [.lit (.bool true)], args := [d1, d2, d3] }
  | _ => none }
def closurePathsRow : OpenClaim := { program := "ytbmnfifnenajjaagreat", sum := "7712719d8f9908cbd71b4dd66941d9b88606f4f45d5a060888fcd8ed412604c7", func := "floodgate/floodgatelaw09.ClosurePaths", spec := "closurePaths", unfollowed := true, recurses := true, apart := false }
def ClosurePathsSaid : Prop := closurePathsRow.holds Tryz.pinned (OpenSpec.ofChange closurePathsSpec)

/-- ITS FALSE NEIGHBOUR: 'it returns false'. Refute it at one input. -/
def closurePathsWrong : ChangeSpec := { name := "closurePaths", fn := fun _ => fun
  | [d1, d2, d3] => { results := [.lit (.bool false)], args := [d1, d2, d3] }
  | _ => none }
def ClosurePathsWrongFalsely : Prop := closurePathsRow.holds Tryz.pinned (OpenSpec.ofChange closurePathsWrong)

/-- 'floodgatelaw09.ClosureFacts': WHATEVER THE INPUT: true; the input reads as it did. -/
def closureFactsSpec : ChangeSpec := { name := "closureFacts", fn := fun _ => fun
  | [d1, d2, d3] => { results := [.lit (.bool true)], args := [d1, d2, d3] }
  | _ => none }
def closureFactsRow : OpenClaim := { program := "ytbmnfifnenajjaagreat", sum := "7712719d8f9908cbd71b4dd66941d9b88606f4f45d5a060888fcd8ed412604c7", func := "floodgate/floodgatelaw09.ClosureFacts", spec := "closureFacts", unfollowed := true, recurses := true, apart := false }
def ClosureFactsSaid : Prop := closureFactsRow.holds Tryz.pinned (OpenSpec.ofChange closureFactsSpec)

/-- ITS FALSE NEIGHBOUR: 'it returns false'. Refute it at one input. -/
def closureFactsWrong : ChangeSpec := { name := "closureFacts", fn := fun _ => fun
  | [d1, d2, d3] => { results := [.lit (.bool false)], args := [d1, d2, d3] }
  | _ => none }
def ClosureFactsWrongFalsely : Prop := closureFactsRow.holds Tryz.pinned (OpenSpec.ofChange closureFactsWrong)

/- THE SECOND FORM. 'bulk': how many values and letters a reading holds, each counted each time it is reached (what is shared counts as often as it is met; a slice's spare places count too). A statement '..UptoSaid' is the law's where the arguments, and the package variables that the reading takes, are together of bulk at most 1048576: NARROWER than '..Said'. Prove '..Said' where nothing that the law and all that it calls make is longer than what came in: it says more and counts as full. Else prove '..UptoSaid'. A law counts once. -/
mutual
def uptoBulk {H : Type} : DataW H → Nat
  | .lit (.string bytes) => bytes.length + 1
  | .lit _ => 1
  | .nil => 1
  | .ptr d => uptoBulk d + 1
  | .slice elems spare => uptoBulkAll elems + uptoBulkAll spare + 1
  | .agg parts => uptoBulkAll parts + 1
  | .iface _ d => uptoBulk d + 1
  | .map entries => uptoBulkEntries entries + 1
  | .held _ => 1
def uptoBulkAll {H : Type} : List (DataW H) → Nat
  | [] => 0
  | d :: r => uptoBulk d + uptoBulkAll r
def uptoBulkEntries {H : Type} : List (Lit × DataW H) → Nat
  | [] => 0
  | x :: r => uptoBulkEntry x + uptoBulkEntries r
def uptoBulkEntry {H : Type} : Lit × DataW H → Nat
  | (.string bytes, d) => bytes.length + uptoBulk d + 1
  | (_, d) => uptoBulk d + 1
 end
def uptoSmall : (H : Type) → List (DataW H) → Bool := fun _ ds => decide (uptoBulkAll ds ≤ 1048576)
def OpenSpec.upto (s : _root_.Go.ChangeSpec) : _root_.Go.OpenSpec := { _root_.Go.OpenSpec.ofChange s with cond := some uptoSmall }

/-- 'floodgatelaw09.ClosureRuns', WHERE WHAT IT READS IS OF BULK AT MOST 1048576: true; the input reads as it did. -/
def closureRunsUptoRow : OpenClaim := { program := "ytbmnfifnenajjaagreat", sum := "7712719d8f9908cbd71b4dd66941d9b88606f4f45d5a060888fcd8ed412604c7", func := "floodgate/floodgatelaw09.ClosureRuns", spec := "closureRuns", unfollowed := true, recurses := true, apart := false, narrowed := true }
def ClosureRunsUptoSaid : Prop := closureRunsUptoRow.holds Tryz.pinned (OpenSpec.upto closureRunsSpec)

/-- 'floodgatelaw09.ClosureOrders', WHERE WHAT IT READS IS OF BULK AT MOST 1048576: true; the input reads as it did. -/
def closureOrdersUptoRow : OpenClaim := { program := "ytbmnfifnenajjaagreat", sum := "7712719d8f9908cbd71b4dd66941d9b88606f4f45d5a060888fcd8ed412604c7", func := "floodgate/floodgatelaw09.ClosureOrders", spec := "closureOrders", unfollowed := true, recurses := true, apart := false, narrowed := true }
def ClosureOrdersUptoSaid : Prop := closureOrdersUptoRow.holds Tryz.pinned (OpenSpec.upto closureOrdersSpec)

/-- 'floodgatelaw09.ClosurePaths', WHERE WHAT IT READS IS OF BULK AT MOST 1048576: true; the input reads as it did. -/
def closurePathsUptoRow : OpenClaim := { program := "ytbmnfifnenajjaagreat", sum := "7712719d8f9908cbd71b4dd66941d9b88606f4f45d5a060888fcd8ed412604c7", func := "floodgate/floodgatelaw09.ClosurePaths", spec := "closurePaths", unfollowed := true, recurses := true, apart := false, narrowed := true }
def ClosurePathsUptoSaid : Prop := closurePathsUptoRow.holds Tryz.pinned (OpenSpec.upto closurePathsSpec)

/-- 'floodgatelaw09.ClosureFacts', WHERE WHAT IT READS IS OF BULK AT MOST 1048576: true; the input reads as it did. -/
def closureFactsUptoRow : OpenClaim := { program := "ytbmnfifnenajjaagreat", sum := "7712719d8f9908cbd71b4dd66941d9b88606f4f45d5a060888fcd8ed412604c7", func := "floodgate/floodgatelaw09.ClosureFacts", spec := "closureFacts", unfollowed := true, recurses := true, apart := false, narrowed := true }
def ClosureFactsUptoSaid : Prop := closureFactsUptoRow.holds Tryz.pinned (OpenSpec.upto closureFactsSpec)

end Rows
end Go.Proofs.YtbmnfifnenajjaaGreat
