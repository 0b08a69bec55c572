/- Closed facts of WaitNames' row. -/
import Derived.Test.YtgboonfbfapaaaaGreatRows
import Derived.ProofKit
set_option linter.unusedVariables false
namespace Go.Proofs.YtgboonfbfapaaaaGreat
theorem c4_1 : laidOutB Tryz.prog = true := by kernel_rfl
theorem c4_5 : (Rows.waitNamesRow.stops == []) = true := by kernel_rfl
theorem c4_9 : (Rows.waitNamesRow.inPlace == Tryz.prog.inPlace 4) = true := by kernel_rfl
theorem c4_13 : (Rows.waitNamesRow.maps == (Tryz.f4.params.toList ++ Rows.waitNamesSpec.plain.varTypes Tryz.prog).any (Tryz.prog.mapsRec ·)) = true := by kernel_rfl
theorem c4_17 : (Rows.waitNamesRow.wideKeys == (Tryz.f4.params.toList ++ Rows.waitNamesSpec.plain.varTypes Tryz.prog ++ Tryz.f4.resultTypes.toList).any (Tryz.prog.wideKeysFrom ·)) = true := by kernel_rfl
theorem c4_21 : (Rows.waitNamesRow.loopsOut == Tryz.f4.resultTypes.toList.any (Tryz.prog.loopsFrom ·)) = true := by kernel_rfl
theorem c4_25 : Tryz.prog.mayEnter = true := by kernel_rfl
theorem c4_29 : (Rows.waitNamesRow.pinned == Rows.waitNamesRow.pinnedBy) = true := by kernel_rfl
end Go.Proofs.YtgboonfbfapaaaaGreat
