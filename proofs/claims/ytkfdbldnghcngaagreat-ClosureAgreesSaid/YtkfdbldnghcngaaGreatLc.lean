/- Closed facts of ClosureAgrees' row. -/
import Derived.Test.YtkfdbldnghcngaaGreatRows
import Derived.ProofKit
set_option linter.unusedVariables false
namespace Go.Proofs.YtkfdbldnghcngaaGreat
theorem c7_2 : mapsRowed Tryz.prog = true := by kernel_rfl
theorem c7_6 : (Tryz.prog.stops == []) = true := by kernel_rfl
theorem c7_10 : (Rows.closureAgreesRow.unfollowed == Tryz.prog.unfollowed 7) = true := by kernel_rfl
theorem c7_14 : (Rows.closureAgreesRow.ifaces == (Tryz.f7.params.toList ++ Rows.closureAgreesSpec.plain.varTypes Tryz.prog).any (Tryz.prog.ifacesRec ·)) = true := by kernel_rfl
theorem c7_18 : Rows.closureAgreesSpec.vars.all (Tryz.prog.varReadable ·) = true := by kernel_rfl
theorem c7_22 : (Rows.closureAgreesRow.plainKeys == Tryz.prog.plainKeys) = true := by kernel_rfl
theorem c7_26 : (Rows.closureAgreesRow.lifted == Tryz.prog.liftsFinal) = true := by kernel_rfl
theorem c7_30 : (Rows.closureAgreesRow.veiled == (Tryz.f7.params.toList ++ Rows.closureAgreesSpec.plain.varTypes Tryz.prog ++ Tryz.f7.resultTypes.toList).any (Tryz.prog.veiledRec ·)) = true := by kernel_rfl
end Go.Proofs.YtkfdbldnghcngaaGreat
