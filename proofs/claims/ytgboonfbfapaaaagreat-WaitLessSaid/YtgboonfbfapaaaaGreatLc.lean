/- Closed facts of WaitLess' row. -/
import Derived.Test.YtgboonfbfapaaaaGreatRows
import Derived.ProofKit
set_option linter.unusedVariables false
set_option linter.unusedSimpArgs false
set_option linter.unusedSectionVars false
set_option linter.unusedVariables false
namespace Go.Proofs.YtgboonfbfapaaaaGreat
theorem c3_2 : mapsRowed Tryz.prog = true := by kernel_rfl
theorem c3_6 : (Tryz.prog.stops == []) = true := by kernel_rfl
theorem c3_10 : (Rows.waitLessRow.unfollowed == Tryz.prog.unfollowed 3) = true := by kernel_rfl
theorem c3_14 : (Rows.waitLessRow.ifaces == (Tryz.f3.params.toList ++ Rows.waitLessSpec.plain.varTypes Tryz.prog).any (Tryz.prog.ifacesRec ·)) = true := by kernel_rfl
theorem c3_18 : Rows.waitLessSpec.vars.all (Tryz.prog.varReadable ·) = true := by kernel_rfl
theorem c3_22 : (Rows.waitLessRow.plainKeys == Tryz.prog.plainKeys) = true := by kernel_rfl
theorem c3_26 : (Rows.waitLessRow.lifted == Tryz.prog.liftsFinal) = true := by kernel_rfl
theorem c3_30 : (Rows.waitLessRow.veiled == (Tryz.f3.params.toList ++ Rows.waitLessSpec.plain.varTypes Tryz.prog ++ Tryz.f3.resultTypes.toList).any (Tryz.prog.veiledRec ·)) = true := by kernel_rfl
end Go.Proofs.YtgboonfbfapaaaaGreat
