/- Closed facts of ClosureAgrees' row. -/
import Derived.Test.YtkfdbldnghcngaaGreatRows
import Derived.ProofKit
set_option linter.unusedVariables false
namespace Go.Proofs.YtkfdbldnghcngaaGreat
theorem c7_0 : Rows.closureAgreesRow.wf (OpenSpec.ofChange Rows.closureAgreesSpec) = true := by kernel_rfl
theorem c7_4 : namedTie Tryz.prog Rows.closureAgreesRow.named Rows.closureAgreesSpec.vars = true := by kernel_rfl
theorem c7_8 : (Tryz.prog.stopKnobs == []) = true := by kernel_rfl
theorem c7_12 : (Rows.closureAgreesRow.named == Tryz.prog.varsNamed 7) = true := by kernel_rfl
theorem c7_16 : (Rows.closureAgreesRow.loops == (Tryz.f7.params.toList ++ Rows.closureAgreesSpec.plain.varTypes Tryz.prog).any (Tryz.prog.loopsFrom ·)) = true := by kernel_rfl
theorem c7_20 : (Rows.closureAgreesRow.ifacesOut == Tryz.f7.resultTypes.toList.any (Tryz.prog.ifacesRec ·)) = true := by kernel_rfl
theorem c7_24 : Tryz.prog.stopsHeard = true := by kernel_rfl
theorem c7_28 : (Rows.closureAgreesRow.kinds == (if Rows.closureAgreesRow.domain.isEmpty then [] else Tryz.f7.params.toList.map fun t => match Tryz.prog.underlying t with | some (.int k) => some k | _ => none)) = true := by kernel_rfl
end Go.Proofs.YtkfdbldnghcngaaGreat
