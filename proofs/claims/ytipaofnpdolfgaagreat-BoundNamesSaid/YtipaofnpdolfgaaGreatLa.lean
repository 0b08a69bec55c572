/- Closed facts of BoundNames' row. -/
import Derived.Test.YtipaofnpdolfgaaGreatRows
import Derived.ProofKit
set_option linter.unusedVariables false
namespace Go.Proofs.YtipaofnpdolfgaaGreat
theorem c5_0 : Rows.boundNamesRow.wf (OpenSpec.ofChange Rows.boundNamesSpec) = true := by kernel_rfl
theorem c5_4 : namedTie Tryz.prog Rows.boundNamesRow.named Rows.boundNamesSpec.vars = true := by kernel_rfl
theorem c5_8 : (Tryz.prog.stopKnobs == []) = true := by kernel_rfl
theorem c5_12 : (Rows.boundNamesRow.named == Tryz.prog.varsNamed 5) = true := by kernel_rfl
theorem c5_16 : (Rows.boundNamesRow.loops == (Tryz.f5.params.toList ++ Rows.boundNamesSpec.plain.varTypes Tryz.prog).any (Tryz.prog.loopsFrom ·)) = true := by kernel_rfl
theorem c5_20 : (Rows.boundNamesRow.ifacesOut == Tryz.f5.resultTypes.toList.any (Tryz.prog.ifacesRec ·)) = true := by kernel_rfl
theorem c5_24 : Tryz.prog.stopsHeard = true := by kernel_rfl
theorem c5_28 : (Rows.boundNamesRow.kinds == (if Rows.boundNamesRow.domain.isEmpty then [] else Tryz.f5.params.toList.map fun t => match Tryz.prog.underlying t with | some (.int k) => some k | _ => none)) = true := by kernel_rfl
end Go.Proofs.YtipaofnpdolfgaaGreat
