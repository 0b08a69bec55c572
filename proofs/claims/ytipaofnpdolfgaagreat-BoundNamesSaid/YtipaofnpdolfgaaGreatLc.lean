/- Closed facts of BoundNames' row. -/
import Derived.Test.YtipaofnpdolfgaaGreatRows
import Derived.ProofKit
set_option linter.unusedVariables false
namespace Go.Proofs.YtipaofnpdolfgaaGreat
theorem c5_2 : mapsRowed Tryz.prog = true := by kernel_rfl
theorem c5_6 : (Tryz.prog.stops == []) = true := by kernel_rfl
theorem c5_10 : (Rows.boundNamesRow.unfollowed == Tryz.prog.unfollowed 5) = true := by kernel_rfl
theorem c5_14 : (Rows.boundNamesRow.ifaces == (Tryz.f5.params.toList ++ Rows.boundNamesSpec.plain.varTypes Tryz.prog).any (Tryz.prog.ifacesRec ·)) = true := by kernel_rfl
theorem c5_18 : Rows.boundNamesSpec.vars.all (Tryz.prog.varReadable ·) = true := by kernel_rfl
theorem c5_22 : (Rows.boundNamesRow.plainKeys == Tryz.prog.plainKeys) = true := by kernel_rfl
theorem c5_26 : (Rows.boundNamesRow.lifted == Tryz.prog.liftsFinal) = true := by kernel_rfl
theorem c5_30 : (Rows.boundNamesRow.veiled == (Tryz.f5.params.toList ++ Rows.boundNamesSpec.plain.varTypes Tryz.prog ++ Tryz.f5.resultTypes.toList).any (Tryz.prog.veiledRec ·)) = true := by kernel_rfl
end Go.Proofs.YtipaofnpdolfgaaGreat
