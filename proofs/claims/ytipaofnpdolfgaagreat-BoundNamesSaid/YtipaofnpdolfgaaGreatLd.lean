/- Closed facts of BoundNames' row. -/
import Derived.Test.YtipaofnpdolfgaaGreatRows
import Derived.ProofKit
set_option linter.unusedVariables false
namespace Go.Proofs.YtipaofnpdolfgaaGreat
theorem c5_3 : Tryz.f5.params.all (Tryz.prog.readableRec ·) = true := by kernel_rfl
theorem c5_7 : (Rows.boundNamesRow.knobs == []) = true := by kernel_rfl
theorem c5_11 : (Rows.boundNamesRow.recurses == Tryz.prog.recurses 5) = true := by kernel_rfl
theorem c5_15 : (Rows.boundNamesRow.mapsOut == Tryz.prog.mapsAmong Tryz.f5.resultTypes.toList) = true := by kernel_rfl
theorem c5_19 : Tryz.f5.resultTypes.all (fun t => Tryz.prog.readableRec t && decide (t < Tryz.prog.types.size)) = true := by kernel_rfl
theorem c5_23 : Rows.boundNamesRow.shortTexts.isNone = true := by kernel_rfl
theorem c5_27 : (Tryz.prog.make == some Rows.boundNamesRow.make) = true := by kernel_rfl
theorem c5_31 : Rows.boundNamesRow.veiledFits Tryz.prog Tryz.f5.params.toList (Tryz.f5.params.toList ++ Rows.boundNamesSpec.plain.varTypes Tryz.prog ++ Tryz.f5.resultTypes.toList) = true := by kernel_rfl
end Go.Proofs.YtipaofnpdolfgaaGreat
