/- Closed facts of ClosureAgrees' row. -/
import Derived.Test.YtkfdbldnghcngaaGreatRows
import Derived.ProofKit
set_option linter.unusedVariables false
namespace Go.Proofs.YtkfdbldnghcngaaGreat
theorem c7_3 : Tryz.f7.params.all (Tryz.prog.readableRec ·) = true := by kernel_rfl
theorem c7_7 : (Rows.closureAgreesRow.knobs == []) = true := by kernel_rfl
theorem c7_11 : (Rows.closureAgreesRow.recurses == Tryz.prog.recurses 7) = true := by kernel_rfl
theorem c7_15 : (Rows.closureAgreesRow.mapsOut == Tryz.prog.mapsAmong Tryz.f7.resultTypes.toList) = true := by kernel_rfl
theorem c7_19 : Tryz.f7.resultTypes.all (fun t => Tryz.prog.readableRec t && decide (t < Tryz.prog.types.size)) = true := by kernel_rfl
theorem c7_23 : Rows.closureAgreesRow.shortTexts.isNone = true := by kernel_rfl
theorem c7_27 : (Tryz.prog.make == some Rows.closureAgreesRow.make) = true := by kernel_rfl
theorem c7_31 : Rows.closureAgreesRow.veiledFits Tryz.prog Tryz.f7.params.toList (Tryz.f7.params.toList ++ Rows.closureAgreesSpec.plain.varTypes Tryz.prog ++ Tryz.f7.resultTypes.toList) = true := by kernel_rfl
end Go.Proofs.YtkfdbldnghcngaaGreat
