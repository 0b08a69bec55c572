/- Closed facts of WaitLess' row, together. -/
import Derived.Test.YtgboonfbfapaaaaGreatLa
import Derived.Test.YtgboonfbfapaaaaGreatLb
import Derived.Test.YtgboonfbfapaaaaGreatLc
import Derived.Test.YtgboonfbfapaaaaGreatLd
set_option linter.unusedVariables false
set_option linter.unusedSimpArgs false
set_option linter.unusedSectionVars false
namespace Go.Proofs.YtgboonfbfapaaaaGreat
theorem and2 {a b : Bool} (h : a = true) (k : b = true) : (a && b) = true := by rw [h, k]; rfl
theorem closed3 : joinedFacts Tryz.prog 3 Tryz.f3 Rows.waitLessSpec Rows.waitLessRow = true := by
  unfold joinedFacts
  exact (and2 (and2 (and2 (and2 (and2 (and2 (and2 (and2 (and2 (and2 (and2 (and2 (and2 (and2 (and2 (and2 (and2 (and2 (and2 (and2 (and2 (and2 (and2 (and2 (and2 (and2 (and2 (and2 (and2 (and2 (and2 c3_0 c3_1) c3_2) c3_3) c3_4) c3_5) c3_6) c3_7) c3_8) c3_9) c3_10) c3_11) c3_12) c3_13) c3_14) c3_15) c3_16) c3_17) c3_18) c3_19) c3_20) c3_21) c3_22) c3_23) c3_24) c3_25) c3_26) c3_27) (by kernel_rfl)) c3_29) c3_30) c3_31)
theorem named3 : Tryz.prog.funcNamed Rows.waitLessRow.func = some 3 := by kernel_rfl
theorem wrap3 : Func.isWrapper Tryz.prog Tryz.f3 Rows.waitLessRow.wrapper Rows.waitLessRow.mainSum := by unfold Func.isWrapper; first | (rw [if_pos (by decide +kernel)]; kernel_rfl) | (rw [if_neg (by decide +kernel)]; exact ⟨rfl, rfl⟩)
theorem inst3 : Tryz.f3.isInstance Tryz.prog Rows.waitLessRow.origin Rows.waitLessRow.targs := of_decide_eq_true (by kernel_rfl)
end Go.Proofs.YtgboonfbfapaaaaGreat
