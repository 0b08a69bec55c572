/- Closed facts of BoundNames' row. -/
import Derived.Test.YtipaofnpdolfgaaGreatRows
import Derived.ProofKit
set_option linter.unusedVariables false
namespace Go.Proofs.YtipaofnpdolfgaaGreat
theorem c5_1 : laidOutB Tryz.prog = true := by kernel_rfl
theorem c5_5 : (Rows.boundNamesRow.stops == []) = true := by kernel_rfl
theorem c5_9 : (Rows.boundNamesRow.inPlace == Tryz.prog.inPlace 5) = true := by kernel_rfl
theorem c5_13 : (Rows.boundNamesRow.maps == (Tryz.f5.params.toList ++ Rows.boundNamesSpec.plain.varTypes Tryz.prog).any (Tryz.prog.mapsRec ·)) = true := by kernel_rfl
theorem c5_17 : (Rows.boundNamesRow.wideKeys == (Tryz.f5.params.toList ++ Rows.boundNamesSpec.plain.varTypes Tryz.prog ++ Tryz.f5.resultTypes.toList).any (Tryz.prog.wideKeysFrom ·)) = true := by kernel_rfl
theorem c5_21 : (Rows.boundNamesRow.loopsOut == Tryz.f5.resultTypes.toList.any (Tryz.prog.loopsFrom ·)) = true := by kernel_rfl
theorem c5_25 : Tryz.prog.mayEnter = true := by kernel_rfl
theorem c5_29 : (Rows.boundNamesRow.pinned == Rows.boundNamesRow.pinnedBy) = true := by kernel_rfl
end Go.Proofs.YtipaofnpdolfgaaGreat
