/- Closed facts of WaitNames' row. -/
import Derived.Test.YtgboonfbfapaaaaGreatRows
import Derived.ProofKit
set_option linter.unusedVariables false
namespace Go.Proofs.YtgboonfbfapaaaaGreat
theorem c4_3 : Tryz.f4.params.all (Tryz.prog.readableRec ·) = true := by kernel_rfl
theorem c4_7 : (Rows.waitNamesRow.knobs == []) = true := by kernel_rfl
theorem c4_11 : (Rows.waitNamesRow.recurses == Tryz.prog.recurses 4) = true := by kernel_rfl
theorem c4_15 : (Rows.waitNamesRow.mapsOut == Tryz.prog.mapsAmong Tryz.f4.resultTypes.toList) = true := by kernel_rfl
theorem c4_19 : Tryz.f4.resultTypes.all (fun t => Tryz.prog.readableRec t && decide (t < Tryz.prog.types.size)) = true := by kernel_rfl
theorem c4_23 : Rows.waitNamesRow.shortTexts.isNone = true := by kernel_rfl
theorem c4_27 : (Tryz.prog.make == some Rows.waitNamesRow.make) = true := by kernel_rfl
theorem c4_31 : Rows.waitNamesRow.veiledFits Tryz.prog Tryz.f4.params.toList (Tryz.f4.params.toList ++ Rows.waitNamesSpec.plain.varTypes Tryz.prog ++ Tryz.f4.resultTypes.toList) = true := by kernel_rfl
end Go.Proofs.YtgboonfbfapaaaaGreat
