/- Closed facts of WaitNames' row. -/
import Derived.Test.YtgboonfbfapaaaaGreatRows
import Derived.ProofKit
set_option linter.unusedVariables false
namespace Go.Proofs.YtgboonfbfapaaaaGreat
theorem c4_2 : mapsRowed Tryz.prog = true := by kernel_rfl
theorem c4_6 : (Tryz.prog.stops == []) = true := by kernel_rfl
theorem c4_10 : (Rows.waitNamesRow.unfollowed == Tryz.prog.unfollowed 4) = true := by kernel_rfl
theorem c4_14 : (Rows.waitNamesRow.ifaces == (Tryz.f4.params.toList ++ Rows.waitNamesSpec.plain.varTypes Tryz.prog).any (Tryz.prog.ifacesRec ·)) = true := by kernel_rfl
theorem c4_18 : Rows.waitNamesSpec.vars.all (Tryz.prog.varReadable ·) = true := by kernel_rfl
theorem c4_22 : (Rows.waitNamesRow.plainKeys == Tryz.prog.plainKeys) = true := by kernel_rfl
theorem c4_26 : (Rows.waitNamesRow.lifted == Tryz.prog.liftsFinal) = true := by kernel_rfl
theorem c4_30 : (Rows.waitNamesRow.veiled == (Tryz.f4.params.toList ++ Rows.waitNamesSpec.plain.varTypes Tryz.prog ++ Tryz.f4.resultTypes.toList).any (Tryz.prog.veiledRec ·)) = true := by kernel_rfl
end Go.Proofs.YtgboonfbfapaaaaGreat
