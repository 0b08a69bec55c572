/-
  No cell of these rows narrows 'for every input' (looked for: loops, veiled, ifaces, maps, wideKeys, modest, calm, conditions, laid).
  DERIVED. THE GIVEN ROWS OF THIS SEAT. 12 by the template 'for every input the law returns true; each argument reads behind the call as it read before'; 0 by the template 'total and deterministic' (their statements: YtkfdbldnghcngaaGreatTotals.lean).
  GIVEN WITH THE SEED: the statements are not yours to turn. If you find one false, say at which input.
  Laid BY PROGRAM, IN A SANDBOX (cutbox-rows.mjs): the forced cells as the released guide's own fill.sh prints them over the translation 14cc0a487cc059f1… (all of the seat's roots in one cut). By AI agents, Wed Nov 11 2026. No macro, syntax, notation, axiom, sorry.
-/
import Derived.Test.YtkfdbldnghcngaaGreatChecked
import GoSem.Claim
import GoSem.ClaimJoined
import GoSem.ClaimMapViews
import Derived.JoinedTies
import Derived.KernelRfl
namespace Go.Proofs.YtkfdbldnghcngaaGreat
/- THE CELL 'sum', in the pinned program and in every row, IS THE sha256 OF THE DUMP (.gsa) THAT YtkfdbldnghcngaaGreatProg.lean LOADS. Nothing in Lean hashes anything: it is a label: what it is worth is what the hold of that sum in a sandbox is worth. -/
noncomputable def Tryz.pinned : Pinned := { name := "ytkfdbldnghcngaagreat", sum := "14cc0a487cc059f1b035d8b09e57a3858572a097989bd5896da00705e117ef10", checked := Tryz.checked }
namespace Rows
def none {H : Type} : Left H := { results := [], args := [] }

/-- 'floodgatelaw09.ClosureRuns': WHATEVER THE INPUT: true; the input reads as it did. -/
def closureRunsSpec : ChangeSpec := { name := "closureRuns", fn := fun _ => fun
  | [d1, d2] => { results := [.lit (.bool true)], args := [d1, d2] }
  | _ => none }
def closureRunsRow : OpenClaim := { program := "ytkfdbldnghcngaagreat", sum := "14cc0a487cc059f1b035d8b09e57a3858572a097989bd5896da00705e117ef10", func := "floodgate/floodgatelaw09.ClosureRuns", spec := "closureRuns", unfollowed := true, recurses := true, apart := false }
def ClosureRunsSaid : Prop := closureRunsRow.holds Tryz.pinned (OpenSpec.ofChange closureRunsSpec)

/-- ITS FALSE NEIGHBOUR: 'it returns false'. Refute it at one input. -/
def closureRunsWrong : ChangeSpec := { name := "closureRuns", fn := fun _ => fun
  | [d1, d2] => { results := [.lit (.bool false)], args := [d1, d2] }
  | _ => none }
def ClosureRunsWrongFalsely : Prop := closureRunsRow.holds Tryz.pinned (OpenSpec.ofChange closureRunsWrong)

/-- 'floodgatelaw09.ClosureOrders': WHATEVER THE INPUT: true; the input reads as it did. -/
def closureOrdersSpec : ChangeSpec := { name := "closureOrders", fn := fun _ => fun
  | [d1, d2, d3] => { results := [.lit (.bool true)], args := [d1, d2, d3] }
  | _ => none }
def closureOrdersRow : OpenClaim := { program := "ytkfdbldnghcngaagreat", sum := "14cc0a487cc059f1b035d8b09e57a3858572a097989bd5896da00705e117ef10", func := "floodgate/floodgatelaw09.ClosureOrders", spec := "closureOrders", unfollowed := true, recurses := true, apart := false }
def ClosureOrdersSaid : Prop := closureOrdersRow.holds Tryz.pinned (OpenSpec.ofChange closureOrdersSpec)

/-- ITS FALSE NEIGHBOUR: 'it returns false'. Refute it at one input. -/
def closureOrdersWrong : ChangeSpec := { name := "closureOrders", fn := fun _ => fun
  | [d1, d2, d3] => { results := [.lit (.bool false)], args := [d1, d2, d3] }
  | _ => none }
def ClosureOrdersWrongFalsely : Prop := closureOrdersRow.holds Tryz.pinned (OpenSpec.ofChange closureOrdersWrong)

/-- 'floodgatelaw09.ClosureAnyOrder': WHATEVER THE INPUT: true; the input reads as it did. -/
def closureAnyOrderSpec : ChangeSpec := { name := "closureAnyOrder", fn := fun _ => fun
  | [d1, d2] => { results := [.lit (.bool true)], args := [d1, d2] }
  | _ => none }
def closureAnyOrderRow : OpenClaim := { program := "ytkfdbldnghcngaagreat", sum := "14cc0a487cc059f1b035d8b09e57a3858572a097989bd5896da00705e117ef10", func := "floodgate/floodgatelaw09.ClosureAnyOrder", spec := "closureAnyOrder", unfollowed := true, recurses := true, apart := false }
def ClosureAnyOrderSaid : Prop := closureAnyOrderRow.holds Tryz.pinned (OpenSpec.ofChange closureAnyOrderSpec)

/-- ITS FALSE NEIGHBOUR: 'it returns false'. Refute it at one input. -/
def closureAnyOrderWrong : ChangeSpec := { name := "closureAnyOrder", fn := fun _ => fun
  | [d1, d2] => { results := [.lit (.bool false)], args := [d1, d2] }
  | _ => none }
def ClosureAnyOrderWrongFalsely : Prop := closureAnyOrderRow.holds Tryz.pinned (OpenSpec.ofChange closureAnyOrderWrong)

/-- 'floodgatelaw09.ClosureRaw': WHATEVER THE INPUT: true; the input reads as it did. -/
def closureRawSpec : ChangeSpec := { name := "closureRaw", fn := fun _ => fun
  | [d1, d2, d3] => { results := [.lit (.bool true)], args := [d1, d2, d3] }
  | _ => none }
def closureRawRow : OpenClaim := { program := "ytkfdbldnghcngaagreat", sum := "14cc0a487cc059f1b035d8b09e57a3858572a097989bd5896da00705e117ef10", func := "floodgate/floodgatelaw09.ClosureRaw", spec := "closureRaw", unfollowed := true, recurses := true, apart := false }
def ClosureRawSaid : Prop := closureRawRow.holds Tryz.pinned (OpenSpec.ofChange closureRawSpec)

/-- ITS FALSE NEIGHBOUR: 'it returns false'. Refute it at one input. -/
def closureRawWrong : ChangeSpec := { name := "closureRaw", fn := fun _ => fun
  | [d1, d2, d3] => { results := [.lit (.bool false)], args := [d1, d2, d3] }
  | _ => none }
def ClosureRawWrongFalsely : Prop := closureRawRow.holds Tryz.pinned (OpenSpec.ofChange closureRawWrong)

/-- 'floodgatelaw09.ClosureAgrees': WHATEVER THE INPUT: true; the input reads as it did. -/
def closureAgreesSpec : ChangeSpec := { name := "closureAgrees", fn := fun _ => fun
  | [d1, d2] => { results := [.lit (.bool true)], args := [d1, d2] }
  | _ => none }
def closureAgreesRow : OpenClaim := { program := "ytkfdbldnghcngaagreat", sum := "14cc0a487cc059f1b035d8b09e57a3858572a097989bd5896da00705e117ef10", func := "floodgate/floodgatelaw09.ClosureAgrees", spec := "closureAgrees", unfollowed := true, recurses := true, apart := false }
def ClosureAgreesSaid : Prop := closureAgreesRow.holds Tryz.pinned (OpenSpec.ofChange closureAgreesSpec)

/-- ITS FALSE NEIGHBOUR: 'it returns false'. Refute it at one input. -/
def closureAgreesWrong : ChangeSpec := { name := "closureAgrees", fn := fun _ => fun
  | [d1, d2] => { results := [.lit (.bool false)], args := [d1, d2] }
  | _ => none }
def ClosureAgreesWrongFalsely : Prop := closureAgreesRow.holds Tryz.pinned (OpenSpec.ofChange closureAgreesWrong)

/-- 'floodgatelaw09.ClosureWhole': WHATEVER THE INPUT: true; the input reads as it did. -/
def closureWholeSpec : ChangeSpec := { name := "closureWhole", fn := fun _ => fun
  | [d] => { results := [.lit (.bool true)], args := [d] }
  | _ => none }
def closureWholeRow : OpenClaim := { program := "ytkfdbldnghcngaagreat", sum := "14cc0a487cc059f1b035d8b09e57a3858572a097989bd5896da00705e117ef10", func := "floodgate/floodgatelaw09.ClosureWhole", spec := "closureWhole", unfollowed := true, recurses := true, apart := false }
def ClosureWholeSaid : Prop := closureWholeRow.holds Tryz.pinned (OpenSpec.ofChange closureWholeSpec)

/-- ITS FALSE NEIGHBOUR: 'it returns false'. Refute it at one input. -/
def closureWholeWrong : ChangeSpec := { name := "closureWhole", fn := fun _ => fun
  | [d] => { results := [.lit (.bool false)], args := [d] }
  | _ => none }
def ClosureWholeWrongFalsely : Prop := closureWholeRow.holds Tryz.pinned (OpenSpec.ofChange closureWholeWrong)

/-- 'floodgatelaw09.ClosurePaths': WHATEVER THE INPUT: true; the input reads as it did. -/
def closurePathsSpec : ChangeSpec := { name := "closurePaths", fn := fun _ => fun
  | [d1, d2, d3] => { results := [.lit (.bool true)], args := [d1, d2, d3] }
  | _ => none }
def closurePathsRow : OpenClaim := { program := "ytkfdbldnghcngaagreat", sum := "14cc0a487cc059f1b035d8b09e57a3858572a097989bd5896da00705e117ef10", func := "floodgate/floodgatelaw09.ClosurePaths", spec := "closurePaths", unfollowed := true, recurses := true, apart := false }
def ClosurePathsSaid : Prop := closurePathsRow.holds Tryz.pinned (OpenSpec.ofChange closurePathsSpec)

/-- ITS FALSE NEIGHBOUR: 'it returns false'. Refute it at one input. -/
def closurePathsWrong : ChangeSpec := { name := "closurePaths", fn := fun _ => fun
  | [d1, d2, d3] => { results := [.lit (.bool false)], args := [d1, d2, d3] }
  | _ => none }
def ClosurePathsWrongFalsely : Prop := closurePathsRow.holds Tryz.pinned (OpenSpec.ofChange closurePathsWrong)

/-- 'floodgatelaw09.ClosureFacts': WHATEVER THE INPUT: true; the input reads as it did. -/
def closureFactsSpec : ChangeSpec := { name := "closureFacts", fn := fun _ => fun
  | [d1, d2, d3] => { results := [.lit (.bool true)], args := [d1, d2, d3] }
  | _ => none }
def closureFactsRow : OpenClaim := { program := "ytkfdbldnghcngaagreat", sum := "14cc0a487cc059f1b035d8b09e57a3858572a097989bd5896da00705e117ef10", func := "floodgate/floodgatelaw09.ClosureFacts", spec := "closureFacts", unfollowed := true, recurses := true, apart := false }
def ClosureFactsSaid : Prop := closureFactsRow.holds Tryz.pinned (OpenSpec.ofChange closureFactsSpec)

/-- ITS FALSE NEIGHBOUR: 'it returns false'. Refute it at one input. -/
def closureFactsWrong : ChangeSpec := { name := "closureFacts", fn := fun _ => fun
  | [d1, d2, d3] => { results := [.lit (.bool false)], args := [d1, d2, d3] }
  | _ => none }
def ClosureFactsWrongFalsely : Prop := closureFactsRow.holds Tryz.pinned (OpenSpec.ofChange closureFactsWrong)

/-- 'floodgatelaw09.ClosureRounds': WHATEVER THE INPUT: true; the input reads as it did. -/
def closureRoundsSpec : ChangeSpec := { name := "closureRounds", fn := fun _ => fun
  | [d] => { results := [.lit (.bool true)], args := [d] }
  | _ => none }
def closureRoundsRow : OpenClaim := { program := "ytkfdbldnghcngaagreat", sum := "14cc0a487cc059f1b035d8b09e57a3858572a097989bd5896da00705e117ef10", func := "floodgate/floodgatelaw09.ClosureRounds", spec := "closureRounds", unfollowed := true, recurses := true, apart := false }
def ClosureRoundsSaid : Prop := closureRoundsRow.holds Tryz.pinned (OpenSpec.ofChange closureRoundsSpec)

/-- ITS FALSE NEIGHBOUR: 'it returns false'. Refute it at one input. -/
def closureRoundsWrong : ChangeSpec := { name := "closureRounds", fn := fun _ => fun
  | [d] => { results := [.lit (.bool false)], args := [d] }
  | _ => none }
def ClosureRoundsWrongFalsely : Prop := closureRoundsRow.holds Tryz.pinned (OpenSpec.ofChange closureRoundsWrong)

/-- 'floodgatelaw09.ClosureNames': WHATEVER THE INPUT: true; the input reads as it did. -/
def closureNamesSpec : ChangeSpec := { name := "closureNames", fn := fun _ => fun
  | [] => { results := [.lit (.bool true)], args := [] }
  | _ => none }
def closureNamesRow : OpenClaim := { program := "ytkfdbldnghcngaagreat", sum := "14cc0a487cc059f1b035d8b09e57a3858572a097989bd5896da00705e117ef10", func := "floodgate/floodgatelaw09.ClosureNames", spec := "closureNames", unfollowed := true, recurses := true, apart := false }
def ClosureNamesSaid : Prop := closureNamesRow.holds Tryz.pinned (OpenSpec.ofChange closureNamesSpec)

/-- ITS FALSE NEIGHBOUR: 'it returns false'. Refute it at one input. -/
def closureNamesWrong : ChangeSpec := { name := "closureNames", fn := fun _ => fun
  | [] => { results := [.lit (.bool false)], args := [] }
  | _ => none }
def ClosureNamesWrongFalsely : Prop := closureNamesRow.holds Tryz.pinned (OpenSpec.ofChange closureNamesWrong)

/-- 'floodgatelaw09.ClosureMore': WHATEVER THE INPUT: true; the input reads as it did. -/
def closureMoreSpec : ChangeSpec := { name := "closureMore", fn := fun _ => fun
  | [d1, d2] => { results := [.lit (.bool true)], args := [d1, d2] }
  | _ => none }
def closureMoreRow : OpenClaim := { program := "ytkfdbldnghcngaagreat", sum := "14cc0a487cc059f1b035d8b09e57a3858572a097989bd5896da00705e117ef10", func := "floodgate/floodgatelaw09.ClosureMore", spec := "closureMore", unfollowed := true, recurses := true, apart := false }
def ClosureMoreSaid : Prop := closureMoreRow.holds Tryz.pinned (OpenSpec.ofChange closureMoreSpec)

/-- ITS FALSE NEIGHBOUR: 'it returns false'. Refute it at one input. -/
def closureMoreWrong : ChangeSpec := { name := "closureMore", fn := fun _ => fun
  | [d1, d2] => { results := [.lit (.bool false)], args := [d1, d2] }
  | _ => none }
def ClosureMoreWrongFalsely : Prop := closureMoreRow.holds Tryz.pinned (OpenSpec.ofChange closureMoreWrong)

/-- 'floodgatelaw09.ClosureTree': WHATEVER THE INPUT: true; the input reads as it did. -/
def closureTreeSpec : ChangeSpec := { name := "closureTree", fn := fun _ => fun
  | [d] => { results := [.lit (.bool true)], args := [d] }
  | _ => none }
def closureTreeRow : OpenClaim := { program := "ytkfdbldnghcngaagreat", sum := "14cc0a487cc059f1b035d8b09e57a3858572a097989bd5896da00705e117ef10", func := "floodgate/floodgatelaw09.ClosureTree", spec := "closureTree", unfollowed := true, recurses := true, apart := false }
def ClosureTreeSaid : Prop := closureTreeRow.holds Tryz.pinned (OpenSpec.ofChange closureTreeSpec)

/-- ITS FALSE NEIGHBOUR: 'it returns false'. Refute it at one input. -/
def closureTreeWrong : ChangeSpec := { name := "closureTree", fn := fun _ => fun
  | [d] => { results := [.lit (.bool false)], args := [d] }
  | _ => none }
def ClosureTreeWrongFalsely : Prop := closureTreeRow.holds Tryz.pinned (OpenSpec.ofChange closureTreeWrong)

/- THE SECOND FORM. 'bulk': how many values and letters a reading holds, each counted each time it is reached (what is shared counts as often as it is met; a slice's spare places count too). A statement '..UptoSaid' is the law's where the arguments, and the package variables that the reading takes, are together of bulk at most 1048576: NARROWER than '..Said'. Prove '..Said' where nothing that the law and all that it calls make is longer than what came in: it says more and counts as full. Else prove '..UptoSaid'. A law counts once. -/
mutual
def uptoBulk {H : Type} : DataW H → Nat
  | .lit (.string bytes) => bytes.length + 1
  | .lit _ => 1
  | .nil => 1
  | .ptr d => uptoBulk d + 1
  | .slice elems spare => uptoBulkAll elems + uptoBulkAll spare + 1
  | .agg parts => uptoBulkAll parts + 1
  | .iface _ d => uptoBulk d + 1
  | .map entries => uptoBulkEntries entries + 1
  | .held _ => 1
def uptoBulkAll {H : Type} : List (DataW H) → Nat
  | [] => 0
  | d :: r => uptoBulk d + uptoBulkAll r
def uptoBulkEntries {H : Type} : List (Lit × DataW H) → Nat
  | [] => 0
  | x :: r => uptoBulkEntry x + uptoBulkEntries r
def uptoBulkEntry {H : Type} : Lit × DataW H → Nat
  | (.string bytes, d) => bytes.length + uptoBulk d + 1
  | (_, d) => uptoBulk d + 1
 end
def uptoSmall : (H : Type) → List (DataW H) → Bool := fun _ ds => decide (uptoBulkAll ds ≤ 1048576)
def OpenSpec.upto (s : _root_.Go.ChangeSpec) : _root_.Go.OpenSpec := { _root_.Go.OpenSpec.ofChange s with cond := some uptoSmall }

/-- 'floodgatelaw09.ClosureRuns', WHERE WHAT IT READS IS OF BULK AT MOST 1048576: true; the input reads as it did. -/
def closureRunsUptoRow : OpenClaim := { program := "ytkfdbldnghcngaagreat", sum := "14cc0a487cc059f1b035d8b09e57a3858572a097989bd5896da00705e117ef10", func := "floodgate/floodgatelaw09.ClosureRuns", spec := "closureRuns", unfollowed := true, recurses := true, apart := false, narrowed := true }
def ClosureRunsUptoSaid : Prop := closureRunsUptoRow.holds Tryz.pinned (OpenSpec.upto closureRunsSpec)

/-- 'floodgatelaw09.ClosureOrders', WHERE WHAT IT READS IS OF BULK AT MOST 1048576: true; the input reads as it did. -/
def closureOrdersUptoRow : OpenClaim := { program := "ytkfdbldnghcngaagreat", sum := "14cc0a487cc059f1b035d8b09e57a3858572a097989bd5896da00705e117ef10", func := "floodgate/floodgatelaw09.ClosureOrders", spec := "closureOrders", unfollowed := true, recurses := true, apart := false, narrowed := true }
def ClosureOrdersUptoSaid : Prop := closureOrdersUptoRow.holds Tryz.pinned (OpenSpec.upto closureOrdersSpec)

/-- 'floodgatelaw09.ClosureAnyOrder', WHERE WHAT IT READS IS OF BULK AT MOST 1048576: true; the input reads as it did. -/
def closureAnyOrderUptoRow : OpenClaim := { program := "ytkfdbldnghcngaagreat", sum := "14cc0a487cc059f1b035d8b09e57a3858572a097989bd5896da00705e117ef10", func := "floodgate/floodgatelaw09.ClosureAnyOrder", spec := "closureAnyOrder", unfollowed := true, recurses := true, apart := false, narrowed := true }
def ClosureAnyOrderUptoSaid : Prop := closureAnyOrderUptoRow.holds Tryz.pinned (OpenSpec.upto closureAnyOrderSpec)

/-- 'floodgatelaw09.ClosureRaw', WHERE WHAT IT READS IS OF BULK AT MOST 1048576: true; the input reads as it did. -/
def closureRawUptoRow : OpenClaim := { program := "ytkfdbldnghcngaagreat", sum := "14cc0a487cc059f1b035d8b09e57a3858572a097989bd5896da00705e117ef10", func := "floodgate/floodgatelaw09.ClosureRaw", spec := "closureRaw", unfollowed := true, recurses := true, apart := false, narrowed := true }
def ClosureRawUptoSaid : Prop := closureRawUptoRow.holds Tryz.pinned (OpenSpec.upto closureRawSpec)

/-- 'floodgatelaw09.ClosureAgrees', WHERE WHAT IT READS IS OF BULK AT MOST 1048576: true; the input reads as it did. -/
def closureAgreesUptoRow : OpenClaim := { program := "ytkfdbldnghcngaagreat", sum := "14cc0a487cc059f1b035d8b09e57a3858572a097989bd5896da00705e117ef10", func := "floodgate/floodgatelaw09.ClosureAgrees", spec := "closureAgrees", unfollowed := true, recurses := true, apart := false, narrowed := true }
def ClosureAgreesUptoSaid : Prop := closureAgreesUptoRow.holds Tryz.pinned (OpenSpec.upto closureAgreesSpec)

/-- 'floodgatelaw09.ClosureWhole', WHERE WHAT IT READS IS OF BULK AT MOST 1048576: true; the input reads as it did. -/
def closureWholeUptoRow : OpenClaim := { program := "ytkfdbldnghcngaagreat", sum := "14cc0a487cc059f1b035d8b09e57a3858572a097989bd5896da00705e117ef10", func := "floodgate/floodgatelaw09.ClosureWhole", spec := "closureWhole", unfollowed := true, recurses := true, apart := false, narrowed := true }
def ClosureWholeUptoSaid : Prop := closureWholeUptoRow.holds Tryz.pinned (OpenSpec.upto closureWholeSpec)

/-- 'floodgatelaw09.ClosurePaths', WHERE WHAT IT READS IS OF BULK AT MOST 1048576: true; the input reads as it did. -/
def closurePathsUptoRow : OpenClaim := { program := "ytkfdbldnghcngaagreat", sum := "14cc0a487cc059f1b035d8b09e57a3858572a097989bd5896da00705e117ef10", func := "floodgate/floodgatelaw09.ClosurePaths", spec := "closurePaths", unfollowed := true, recurses := true, apart := false, narrowed := true }
def ClosurePathsUptoSaid : Prop := closurePathsUptoRow.holds Tryz.pinned (OpenSpec.upto closurePathsSpec)

/-- 'floodgatelaw09.ClosureFacts', WHERE WHAT IT READS IS OF BULK AT MOST 1048576: true; the input reads as it did. -/
def closureFactsUptoRow : OpenClaim := { program := "ytkfdbldnghcngaagreat", sum := "14cc0a487cc059f1b035d8b09e57a3858572a097989bd5896da00705e117ef10", func := "floodgate/floodgatelaw09.ClosureFacts", spec := "closureFacts", unfollowed := true, recurses := true, apart := false, narrowed := true }
def ClosureFactsUptoSaid : Prop := closureFactsUptoRow.holds Tryz.pinned (OpenSpec.upto closureFactsSpec)

/-- 'floodgatelaw09.ClosureRounds', WHERE WHAT IT READS IS OF BULK AT MOST 1048576: true; the input reads as it did. -/
def closureRoundsUptoRow : OpenClaim := { program := "ytkfdbldnghcngaagreat", sum := "14cc0a487cc059f1b035d8b09e57a3858572a097989bd5896da00705e117ef10", func := "floodgate/floodgatelaw09.ClosureRounds", spec := "closureRounds", unfollowed := true, recurses := true, apart := false, narrowed := true }
def ClosureRoundsUptoSaid : Prop := closureRoundsUptoRow.holds Tryz.pinned (OpenSpec.upto closureRoundsSpec)

/-- 'floodgatelaw09.ClosureNames', WHERE WHAT IT READS IS OF BULK AT MOST 1048576: true; the input reads as it did. -/
def closureNamesUptoRow : OpenClaim := { program := "ytkfdbldnghcngaagreat", sum := "14cc0a487cc059f1b035d8b09e57a3858572a097989bd5896da00705e117ef10", func := "floodgate/floodgatelaw09.ClosureNames", spec := "closureNames", unfollowed := true, recurses := true, apart := false, narrowed := true }
def ClosureNamesUptoSaid : Prop := closureNamesUptoRow.holds Tryz.pinned (OpenSpec.upto closureNamesSpec)

/-- 'floodgatelaw09.ClosureMore', WHERE WHAT IT READS IS OF BULK AT MOST 1048576: true; the input reads as it did. -/
def closureMoreUptoRow : OpenClaim := { program := "ytkfdbldnghcngaagreat", sum := "14cc0a487cc059f1b035d8b09e57a3858572a097989bd5896da00705e117ef10", func := "floodgate/floodgatelaw09.ClosureMore", spec := "closureMore", unfollowed := true, recurses := true, apart := false, narrowed := true }
def ClosureMoreUptoSaid : Prop := closureMoreUptoRow.holds Tryz.pinned (OpenSpec.upto closureMoreSpec)

/-- 'floodgatelaw09.ClosureTree', WHERE WHAT IT READS IS OF BULK AT MOST 1048576: true; the input reads as it did. -/
def closureTreeUptoRow : OpenClaim := { program := "ytkfdbldnghcngaagreat", sum := "14cc0a487cc059f1b035d8b09e57a3858572a097989bd5896da00705e117ef10", func := "floodgate/floodgatelaw09.ClosureTree", spec := "closureTree", unfollowed := true, recurses := true, apart := false, narrowed := true }
def ClosureTreeUptoSaid : Prop := closureTreeUptoRow.holds Tryz.pinned (OpenSpec.upto closureTreeSpec)

end Rows
end Go.Proofs.YtkfdbldnghcngaaGreat
