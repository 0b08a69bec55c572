/-
  No cell of these rows narrows 'for every input' (looked for: loops, veiled, ifaces, maps, wideKeys, modest, calm, conditions, laid).
  DERIVED. THE GIVEN ROWS OF THIS SEAT. 3 by the template 'for every input the law returns true; each argument reads behind the call as it read before'; 0 by the template 'total and deterministic' (their statements: YtipaofnpdolfgaaGreatTotals.lean).
  GIVEN WITH THE SEED: the statements are not yours to turn. If you find one false, say at which input.
  Laid BY PROGRAM, IN A SANDBOX (cutbox-rows.mjs): the forced cells as the released guide's own fill.sh prints them over the translation cf579359cebbca6a… (all of the seat's roots in one cut). By AI agents, Wed Nov 11 2026. No macro, syntax, notation, axiom, sorry.
-/
import Derived.Test.YtipaofnpdolfgaaGreatChecked
import GoSem.Claim
import GoSem.ClaimJoined
import GoSem.ClaimMapViews
import Derived.JoinedTies
import Derived.KernelRfl
namespace Go.Proofs.YtipaofnpdolfgaaGreat
/- THE CELL 'sum', in the pinned program and in every row, IS THE sha256 OF THE DUMP (.gsa) THAT YtipaofnpdolfgaaGreatProg.lean LOADS. Nothing in Lean hashes anything: it is a label: what it is worth is what the hold of that sum in a sandbox is worth. -/
noncomputable def Tryz.pinned : Pinned := { name := "ytipaofnpdolfgaagreat", sum := "cf579359cebbca6a943f3311b1a023a233b19629a63a167e3ca31cd125705912", checked := Tryz.checked }
namespace Rows
def none {H : Type} : Left H := { results := [], args := [] }

/-- 'floodgatelaw12.BoundLoops': WHATEVER THE INPUT: true; the input reads as it did. -/
def boundLoopsSpec : ChangeSpec := { name := "boundLoops", fn := fun _ => fun
  | [d1, d2] => { results := [.lit (.bool true)], args := [d1, d2] }
  | _ => none }
def boundLoopsRow : OpenClaim := { program := "ytipaofnpdolfgaagreat", sum := "cf579359cebbca6a943f3311b1a023a233b19629a63a167e3ca31cd125705912", func := "floodgate/floodgatelaw12.BoundLoops", spec := "boundLoops", unfollowed := true, recurses := true, plainKeys := false, apart := false }
def BoundLoopsSaid : Prop := boundLoopsRow.holds Tryz.pinned (OpenSpec.ofChange boundLoopsSpec)

/-- ITS FALSE NEIGHBOUR: 'it returns false'. Refute it at one input. -/
def boundLoopsWrong : ChangeSpec := { name := "boundLoops", fn := fun _ => fun
  | [d1, d2] => { results := [.lit (.bool false)], args := [d1, d2] }
  | _ => none }
def BoundLoopsWrongFalsely : Prop := boundLoopsRow.holds Tryz.pinned (OpenSpec.ofChange boundLoopsWrong)

/-- 'floodgatelaw12.BoundHolds': WHATEVER THE INPUT: true; the input reads as it did. -/
def boundHoldsSpec : ChangeSpec := { name := "boundHolds", fn := fun _ => fun
  | [d1, d2, d3] => { results := [.lit (.bool true)], args := [d1, d2, d3] }
  | _ => none }
def boundHoldsRow : OpenClaim := { program := "ytipaofnpdolfgaagreat", sum := "cf579359cebbca6a943f3311b1a023a233b19629a63a167e3ca31cd125705912", func := "floodgate/floodgatelaw12.BoundHolds", spec := "boundHolds", unfollowed := true, recurses := true, plainKeys := false, apart := false }
def BoundHoldsSaid : Prop := boundHoldsRow.holds Tryz.pinned (OpenSpec.ofChange boundHoldsSpec)

/-- ITS FALSE NEIGHBOUR: 'it returns false'. Refute it at one input. -/
def boundHoldsWrong : ChangeSpec := { name := "boundHolds", fn := fun _ => fun
  | [d1, d2, d3] => { results := [.lit (.bool false)], args := [d1, d2, d3] }
  | _ => none }
def BoundHoldsWrongFalsely : Prop := boundHoldsRow.holds Tryz.pinned (OpenSpec.ofChange boundHoldsWrong)

/-- 'floodgatelaw12.BoundNames': WHATEVER THE INPUT: true; the input reads as it did. -/
def boundNamesSpec : ChangeSpec := { name := "boundNames", fn := fun _ => fun
  | [] => { results := [.lit (.bool true)], args := [] }
  | _ => none }
def boundNamesRow : OpenClaim := { program := "ytipaofnpdolfgaagreat", sum := "cf579359cebbca6a943f3311b1a023a233b19629a63a167e3ca31cd125705912", func := "floodgate/floodgatelaw12.BoundNames", spec := "boundNames", unfollowed := true, recurses := true, plainKeys := false, apart := false }
def BoundNamesSaid : Prop := boundNamesRow.holds Tryz.pinned (OpenSpec.ofChange boundNamesSpec)

/-- ITS FALSE NEIGHBOUR: 'it returns false'. Refute it at one input. -/
def boundNamesWrong : ChangeSpec := { name := "boundNames", fn := fun _ => fun
  | [] => { results := [.lit (.bool false)], args := [] }
  | _ => none }
def BoundNamesWrongFalsely : Prop := boundNamesRow.holds Tryz.pinned (OpenSpec.ofChange boundNamesWrong)

/- THE SECOND FORM. 'bulk': how many values and letters a reading holds, each counted each time it is reached (what is shared counts as often as it is met; a slice's spare places count too). A statement '..UptoSaid' is the law's where the arguments, and the package variables that the reading takes, are together of bulk at most 1048576: NARROWER than '..Said'. Prove '..Said' where nothing that the law and all that it calls make is longer than what came in: it says more and counts as full. Else prove '..UptoSaid'. A law counts once. -/
mutual
def uptoBulk {H : Type} : DataW H → Nat
  | .lit (.string bytes) => bytes.length + 1
  | .lit _ => 1
  | .nil => 1
  | .ptr d => uptoBulk d + 1
  | .slice elems spare => uptoBulkAll elems + uptoBulkAll spare + 1
  | .agg parts => uptoBulkAll parts + 1
  | .iface _ d => uptoBulk d + 1
  | .map entries => uptoBulkEntries entries + 1
  | .held _ => 1
def uptoBulkAll {H : Type} : List (DataW H) → Nat
  | [] => 0
  | d :: r => uptoBulk d + uptoBulkAll r
def uptoBulkEntries {H : Type} : List (Lit × DataW H) → Nat
  | [] => 0
  | x :: r => uptoBulkEntry x + uptoBulkEntries r
def uptoBulkEntry {H : Type} : Lit × DataW H → Nat
  | (.string bytes, d) => bytes.length + uptoBulk d + 1
  | (_, d) => uptoBulk d + 1
 end
def uptoSmall : (H : Type) → List (DataW H) → Bool := fun _ ds => decide (uptoBulkAll ds ≤ 1048576)
def OpenSpec.upto (s : _root_.Go.ChangeSpec) : _root_.Go.OpenSpec := { _root_.Go.OpenSpec.ofChange s with cond := some uptoSmall }

/-- 'floodgatelaw12.BoundLoops', WHERE WHAT IT READS IS OF BULK AT MOST 1048576: true; the input reads as it did. -/
def boundLoopsUptoRow : OpenClaim := { program := "ytipaofnpdolfgaagreat", sum := "cf579359cebbca6a943f3311b1a023a233b19629a63a167e3ca31cd125705912", func := "floodgate/floodgatelaw12.BoundLoops", spec := "boundLoops", unfollowed := true, recurses := true, plainKeys := false, apart := false, narrowed := true }
def BoundLoopsUptoSaid : Prop := boundLoopsUptoRow.holds Tryz.pinned (OpenSpec.upto boundLoopsSpec)

/-- 'floodgatelaw12.BoundHolds', WHERE WHAT IT READS IS OF BULK AT MOST 1048576: true; the input reads as it did. -/
def boundHoldsUptoRow : OpenClaim := { program := "ytipaofnpdolfgaagreat", sum := "cf579359cebbca6a943f3311b1a023a233b19629a63a167e3ca31cd125705912", func := "floodgate/floodgatelaw12.BoundHolds", spec := "boundHolds", unfollowed := true, recurses := true, plainKeys := false, apart := false, narrowed := true }
def BoundHoldsUptoSaid : Prop := boundHoldsUptoRow.holds Tryz.pinned (OpenSpec.upto boundHoldsSpec)

/-- 'floodgatelaw12.BoundNames', WHERE WHAT IT READS IS OF BULK AT MOST 1048576: true; the input reads as it did. -/
def boundNamesUptoRow : OpenClaim := { program := "ytipaofnpdolfgaagreat", sum := "cf579359cebbca6a943f3311b1a023a233b19629a63a167e3ca31cd125705912", func := "floodgate/floodgatelaw12.BoundNames", spec := "boundNames", unfollowed := true, recurses := true, plainKeys := false, apart := false, narrowed := true }
def BoundNamesUptoSaid : Prop := boundNamesUptoRow.holds Tryz.pinned (OpenSpec.upto boundNamesSpec)

end Rows
end Go.Proofs.YtipaofnpdolfgaaGreat
