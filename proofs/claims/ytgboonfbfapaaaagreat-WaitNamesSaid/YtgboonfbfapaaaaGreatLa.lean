/- Closed facts of WaitNames' row. -/
import Derived.Test.YtgboonfbfapaaaaGreatRows
import Derived.ProofKit
set_option linter.unusedVariables false
namespace Go.Proofs.YtgboonfbfapaaaaGreat
theorem c4_0 : Rows.waitNamesRow.wf (OpenSpec.ofChange Rows.waitNamesSpec) = true := by kernel_rfl
theorem c4_4 : namedTie Tryz.prog Rows.waitNamesRow.named Rows.waitNamesSpec.vars = true := by kernel_rfl
theorem c4_8 : (Tryz.prog.stopKnobs == []) = true := by kernel_rfl
theorem c4_12 : (Rows.waitNamesRow.named == Tryz.prog.varsNamed 4) = true := by kernel_rfl
theorem c4_16 : (Rows.waitNamesRow.loops == (Tryz.f4.params.toList ++ Rows.waitNamesSpec.plain.varTypes Tryz.prog).any (Tryz.prog.loopsFrom ·)) = true := by kernel_rfl
theorem c4_20 : (Rows.waitNamesRow.ifacesOut == Tryz.f4.resultTypes.toList.any (Tryz.prog.ifacesRec ·)) = true := by kernel_rfl
theorem c4_24 : Tryz.prog.stopsHeard = true := by kernel_rfl
theorem c4_28 : (Rows.waitNamesRow.kinds == (if Rows.waitNamesRow.domain.isEmpty then [] else Tryz.f4.params.toList.map fun t => match Tryz.prog.underlying t with | some (.int k) => some k | _ => none)) = true := by kernel_rfl
end Go.Proofs.YtgboonfbfapaaaaGreat
