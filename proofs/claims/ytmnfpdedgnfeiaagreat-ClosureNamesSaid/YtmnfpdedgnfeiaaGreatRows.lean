/-
  No cell of these rows narrows 'for every input' (looked for: loops, veiled, ifaces, maps, wideKeys, modest, calm, conditions, laid).
  DERIVED. THE GIVEN ROWS OF THIS SEAT. 3 by the template 'for every input the law returns true; each argument reads behind the call as it read before'; 0 by the template 'total and deterministic' (their statements: YtmnfpdedgnfeiaaGreatTotals.lean).
  GIVEN WITH THE SEED: the statements are not yours to turn. If you find one false, say at which input.
  Laid BY PROGRAM, IN A SANDBOX (cutbox-rows.mjs): the forced cells as the released guide's own fill.sh prints them over the translation a74be7119d34c4de… (all of the seat's roots in one cut). By AI agents, Wed Nov 11 2026. No macro, syntax, notation, axiom, sorry.
-/
import Derived.Test.YtmnfpdedgnfeiaaGreatChecked
import GoSem.Claim
import GoSem.ClaimJoined
import GoSem.ClaimMapViews
import Derived.JoinedTies
import Derived.KernelRfl
namespace Go.Proofs.YtmnfpdedgnfeiaaGreat
/- THE CELL 'sum', in the pinned program and in every row, IS THE sha256 OF THE DUMP (.gsa) THAT YtmnfpdedgnfeiaaGreatProg.lean LOADS. Nothing in Lean hashes anything: it is a label: what it is worth is what the hold of that sum in a sandbox is worth. -/
noncomputable def Tryz.pinned : Pinned := { name := "ytmnfpdedgnfeiaagreat", sum := "a74be7119d34c4deb26ffa677dd660f453fd64cbcf5e97365ac40a7ca9bc853a", checked := Tryz.checked }
namespace Rows
def none {H : Type} : Left H := { results := [], args := [] }

/-- 'floodgatelaw09.ClosureAnyOrder': WHATEVER THE INPUT: true; the input reads as it did. -/
def closureAnyOrderSpec : ChangeSpec := { name := "closureAnyOrder", fn := fun _ => fun
  | [d1, d2] => { results := [.lit (.bool true)], args := [d1, d2] }
  | _ => none }
def closureAnyOrderRow : OpenClaim := { program := "ytmnfpdedgnfeiaagreat", sum := "a74be7119d34c4deb26ffa677dd660f453fd64cbcf5e97365ac40a7ca9bc853a", func := "floodgate/floodgatelaw09.ClosureAnyOrder", spec := "closureAnyOrder", unfollowed := true, recurses := true, apart := false }
def ClosureAnyOrderSaid : Prop := closureAnyOrderRow.holds Tryz.pinned (OpenSpec.ofChange closureAnyOrderSpec)

/-- ITS FALSE NEIGHBOUR: 'it returns false'. Refute it at one input. -/
def closureAnyOrderWrong : ChangeSpec := { name := "closureAnyOrder", fn := fun _ => fun
  | [d1, d2] => { results := [.lit (.bool false)], args := [d1, d2] }
  | _ => none }
def ClosureAnyOrderWrongFalsely : Prop := closureAnyOrderRow.holds Tryz.pinned (OpenSpec.ofChange closureAnyOrderWrong)

/-- 'floodgatelaw09.ClosureRaw': WHATEVER THE INPUT: true; the input reads as it did. -/
def closureRawSpec : ChangeSpec := { name := "closureRaw", fn := fun _ => fun
  | [d1, d2, d3] => { results := [.lit (.bool true)], args := [d1, d2, d3] }
  | _ => none }
def closureRawRow : OpenClaim := { program := "ytmnfpdedgnfeiaagreat", sum := "a74be7119d34c4deb26ffa677dd660f453fd64cbcf5e97365ac40a7ca9bc853a", func := "floodgate/floodgatelaw09.ClosureRaw", spec := "closureRaw", unfollowed := true, recurses := true, apart := false }
def ClosureRawSaid : Prop := closureRawRow.holds Tryz.pinned (OpenSpec.ofChange closureRawSpec)

/-- ITS FALSE NEIGHBOUR: 'it returns false'. Refute it at one input. -/
def closureRawWrong : ChangeSpec := { name := "closureRaw", fn := fun _ => fun
  | [d1, d2, d3] => { results := [.lit (.bool false)], args := [d1, d2, d3] }
  | _ => none }
def ClosureRawWrongFalsely : Prop := closureRawRow.holds Tryz.pinned (OpenSpec.ofChange closureRawWrong)

/-- 'floodgatelaw09.ClosureNames': WHATEVER THE INPUT: true; the input reads as it did. -/
def closureNamesSpec : ChangeSpec := { name := "closureNames", fn := fun _ => fun
  | [] => { results := [.lit (.bool true)], args := [] }
  | _ => none }
def closureNamesRow : OpenClaim := { program := "ytmnfpdedgnfeiaagreat", sum := "a74be7119d34c4deb26ffa677dd660f453fd64cbcf5e97365ac40a7ca9bc853a", func := "floodgate/floodgatelaw09.ClosureNames", spec := "closureNames", unfollowed := true, recurses := true, apart := false }
def ClosureNamesSaid : Prop := closureNamesRow.holds Tryz.pinned (OpenSpec.ofChange closureNamesSpec)

/-- ITS FALSE NEIGHBOUR: 'it returns false'. Refute it at one input. -/
def closureNamesWrong : ChangeSpec := { name := "closureNames", fn := fun _ => fun
  | [] => { results := [.lit (.bool false)], args := [] }
  | _ => none }
def ClosureNamesWrongFalsely : Prop := closureNamesRow.holds Tryz.pinned (OpenSpec.ofChange closureNamesWrong)

/- THE SECOND FORM. 'bulk': how many values and letters a reading holds, each counted each time it is reached (what is shared counts as often as it is met; a slice's spare places count too). A statement '..UptoSaid' is the law's where the arguments, and the package variables that the reading takes, are together of bulk at most 1048576: NARROWER than '..Said'. Prove '..Said' where nothing that the law and all that it calls make is longer than what came in: it says more and counts as full. Else prove '..UptoSaid'. A law counts once. -/
mutual
def uptoBulk {H : Type} : DataW H → Nat
  | .lit (.string bytes) => bytes.length + 1
  | .lit _ => 1
  | .nil => 1
  | .ptr d => uptoBulk d + 1
  | .slice elems spare => uptoBulkAll elems + uptoBulkAll spare + 1
  | .agg parts => uptoBulkAll parts + 1
  | .iface _ d => uptoBulk d + 1
  | .map entries => uptoBulkEntries entries + 1
  | .held _ => 1
def uptoBulkAll {H : Type} : List (DataW H) → Nat
  | [] => 0
  | d :: r => uptoBulk d + uptoBulkAll r
def uptoBulkEntries {H : Type} : List (Lit × DataW H) → Nat
  | [] => 0
  | x :: r => uptoBulkEntry x + uptoBulkEntries r
def uptoBulkEntry {H : Type} : Lit × DataW H → Nat
  | (.string bytes, d) => bytes.length + uptoBulk d + 1
  | (_, d) => uptoBulk d + 1
 end
def uptoSmall : (H : Type) → List (DataW H) → Bool := fun _ ds => decide (uptoBulkAll ds ≤ 1048576)
def OpenSpec.upto (s : _root_.Go.ChangeSpec) : _root_.Go.OpenSpec := { _root_.Go.OpenSpec.ofChange s with cond := some uptoSmall }

/-- 'floodgatelaw09.ClosureAnyOrder', WHERE WHAT IT READS IS OF BULK AT MOST 1048576: true; the input reads as it did. -/
def closureAnyOrderUptoRow : OpenClaim := { program := "ytmnfpdedgnfeiaagreat", sum := "a74be7119d34c4deb26ffa677dd660f453fd64cbcf5e97365ac40a7ca9bc853a", func := "floodgate/floodgatelaw09.ClosureAnyOrder", spec := "closureAnyOrder", unfollowed := true, recurses := true, apart := false, narrowed := true }
def ClosureAnyOrderUptoSaid : Prop := closureAnyOrderUptoRow.holds Tryz.pinned (OpenSpec.upto closureAnyOrderSpec)

/-- 'floodgatelaw09.ClosureRaw', WHERE WHAT IT READS IS OF BULK AT MOST 1048576: true; the input reads as it did. -/
def closureRawUptoRow : OpenClaim := { program := "ytmnfpdedgnfeiaagreat", sum := "a74be7119d34c4deb26ffa677dd660f453fd64cbcf5e97365ac40a7ca9bc853a", func := "floodgate/floodgatelaw09.ClosureRaw", spec := "closureRaw", unfollowed := true, recurses := true, apart := false, narrowed := true }
def ClosureRawUptoSaid : Prop := closureRawUptoRow.holds Tryz.pinned (OpenSpec.upto closureRawSpec)

/-- 'floodgatelaw09.ClosureNames', WHERE WHAT IT READS IS OF BULK AT MOST 1048576: true; the input reads as it did. -/
def closureNamesUptoRow : OpenClaim := { program := "ytmnfpdedgnfeiaagreat", sum := "a74be7119d34c4deb26ffa677dd660f453fd64cbcf5e97365ac40a7ca9bc853a", func := "floodgate/floodgatelaw09.ClosureNames", spec := "closureNames", unfollowed := true, recurses := true, apart := false, narrowed := true }
def ClosureNamesUptoSaid : Prop := closureNamesUptoRow.holds Tryz.pinned (OpenSpec.upto closureNamesSpec)

end Rows
end Go.Proofs.YtmnfpdedgnfeiaaGreat
