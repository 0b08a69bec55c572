/- Closed facts of WaitLess' row. -/
import Derived.Test.YtgboonfbfapaaaaGreatRows
import Derived.ProofKit
set_option linter.unusedVariables false
set_option linter.unusedSimpArgs false
set_option linter.unusedSectionVars false
set_option linter.unusedVariables false
namespace Go.Proofs.YtgboonfbfapaaaaGreat
theorem c3_1 : laidOutB Tryz.prog = true := by kernel_rfl
theorem c3_5 : (Rows.waitLessRow.stops == []) = true := by kernel_rfl
theorem c3_9 : (Rows.waitLessRow.inPlace == Tryz.prog.inPlace 3) = true := by kernel_rfl
theorem c3_13 : (Rows.waitLessRow.maps == (Tryz.f3.params.toList ++ Rows.waitLessSpec.plain.varTypes Tryz.prog).any (Tryz.prog.mapsRec ·)) = true := by kernel_rfl
theorem c3_17 : (Rows.waitLessRow.wideKeys == (Tryz.f3.params.toList ++ Rows.waitLessSpec.plain.varTypes Tryz.prog ++ Tryz.f3.resultTypes.toList).any (Tryz.prog.wideKeysFrom ·)) = true := by kernel_rfl
theorem c3_21 : (Rows.waitLessRow.loopsOut == Tryz.f3.resultTypes.toList.any (Tryz.prog.loopsFrom ·)) = true := by kernel_rfl
theorem c3_25 : Tryz.prog.mayEnter = true := by kernel_rfl
theorem c3_29 : (Rows.waitLessRow.pinned == Rows.waitLessRow.pinnedBy) = true := by kernel_rfl
end Go.Proofs.YtgboonfbfapaaaaGreat
