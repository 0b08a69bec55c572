/- Closed facts of ClosureAgrees' row. -/
import Derived.Test.YtkfdbldnghcngaaGreatRows
import Derived.ProofKit
set_option linter.unusedVariables false
namespace Go.Proofs.YtkfdbldnghcngaaGreat
theorem c7_1 : laidOutB Tryz.prog = true := by kernel_rfl
theorem c7_5 : (Rows.closureAgreesRow.stops == []) = true := by kernel_rfl
theorem c7_9 : (Rows.closureAgreesRow.inPlace == Tryz.prog.inPlace 7) = true := by kernel_rfl
theorem c7_13 : (Rows.closureAgreesRow.maps == (Tryz.f7.params.toList ++ Rows.closureAgreesSpec.plain.varTypes Tryz.prog).any (Tryz.prog.mapsRec ·)) = true := by kernel_rfl
theorem c7_17 : (Rows.closureAgreesRow.wideKeys == (Tryz.f7.params.toList ++ Rows.closureAgreesSpec.plain.varTypes Tryz.prog ++ Tryz.f7.resultTypes.toList).any (Tryz.prog.wideKeysFrom ·)) = true := by kernel_rfl
theorem c7_21 : (Rows.closureAgreesRow.loopsOut == Tryz.f7.resultTypes.toList.any (Tryz.prog.loopsFrom ·)) = true := by kernel_rfl
theorem c7_25 : Tryz.prog.mayEnter = true := by kernel_rfl
theorem c7_29 : (Rows.closureAgreesRow.pinned == Rows.closureAgreesRow.pinnedBy) = true := by kernel_rfl
end Go.Proofs.YtkfdbldnghcngaaGreat
