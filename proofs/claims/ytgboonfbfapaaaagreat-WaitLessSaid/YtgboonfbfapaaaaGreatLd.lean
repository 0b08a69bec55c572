/- Closed facts of WaitLess' row. -/
import Derived.Test.YtgboonfbfapaaaaGreatRows
import Derived.ProofKit
set_option linter.unusedVariables false
set_option linter.unusedSimpArgs false
set_option linter.unusedSectionVars false
set_option linter.unusedVariables false
namespace Go.Proofs.YtgboonfbfapaaaaGreat
theorem c3_3 : Tryz.f3.params.all (Tryz.prog.readableRec ·) = true := by kernel_rfl
theorem c3_7 : (Rows.waitLessRow.knobs == []) = true := by kernel_rfl
theorem c3_11 : (Rows.waitLessRow.recurses == Tryz.prog.recurses 3) = true := by kernel_rfl
theorem c3_15 : (Rows.waitLessRow.mapsOut == Tryz.prog.mapsAmong Tryz.f3.resultTypes.toList) = true := by kernel_rfl
theorem c3_19 : Tryz.f3.resultTypes.all (fun t => Tryz.prog.readableRec t && decide (t < Tryz.prog.types.size)) = true := by kernel_rfl
theorem c3_23 : Rows.waitLessRow.shortTexts.isNone = true := by kernel_rfl
theorem c3_27 : (Tryz.prog.make == some Rows.waitLessRow.make) = true := by kernel_rfl
theorem c3_31 : Rows.waitLessRow.veiledFits Tryz.prog Tryz.f3.params.toList (Tryz.f3.params.toList ++ Rows.waitLessSpec.plain.varTypes Tryz.prog ++ Tryz.f3.resultTypes.toList) = true := by kernel_rfl
end Go.Proofs.YtgboonfbfapaaaaGreat
