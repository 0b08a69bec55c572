/- Closed facts of WaitLess' row. -/
import Derived.Test.YtgboonfbfapaaaaGreatRows
import Derived.ProofKit
set_option linter.unusedVariables false
set_option linter.unusedSimpArgs false
set_option linter.unusedSectionVars false
set_option linter.unusedVariables false
namespace Go.Proofs.YtgboonfbfapaaaaGreat
theorem c3_0 : Rows.waitLessRow.wf (OpenSpec.ofChange Rows.waitLessSpec) = true := by kernel_rfl
theorem c3_4 : namedTie Tryz.prog Rows.waitLessRow.named Rows.waitLessSpec.vars = true := by kernel_rfl
theorem c3_8 : (Tryz.prog.stopKnobs == []) = true := by kernel_rfl
theorem c3_12 : (Rows.waitLessRow.named == Tryz.prog.varsNamed 3) = true := by kernel_rfl
theorem c3_16 : (Rows.waitLessRow.loops == (Tryz.f3.params.toList ++ Rows.waitLessSpec.plain.varTypes Tryz.prog).any (Tryz.prog.loopsFrom ·)) = true := by kernel_rfl
theorem c3_20 : (Rows.waitLessRow.ifacesOut == Tryz.f3.resultTypes.toList.any (Tryz.prog.ifacesRec ·)) = true := by kernel_rfl
theorem c3_24 : Tryz.prog.stopsHeard = true := by kernel_rfl
theorem c3_28 : (Rows.waitLessRow.kinds == (if Rows.waitLessRow.domain.isEmpty then [] else Tryz.f3.params.toList.map fun t => match Tryz.prog.underlying t with | some (.int k) => some k | _ => none)) = true := by kernel_rfl
end Go.Proofs.YtgboonfbfapaaaaGreat
