/- Closed facts of WaitNames' row, together. -/
import Derived.Test.YtgboonfbfapaaaaGreatLa
import Derived.Test.YtgboonfbfapaaaaGreatLb
import Derived.Test.YtgboonfbfapaaaaGreatLc
import Derived.Test.YtgboonfbfapaaaaGreatLd
namespace Go.Proofs.YtgboonfbfapaaaaGreat
theorem and2 {a b : Bool} (h : a = true) (k : b = true) : (a && b) = true := by rw [h, k]; rfl
theorem closed4 : joinedFacts Tryz.prog 4 Tryz.f4 Rows.waitNamesSpec Rows.waitNamesRow = true := by
  unfold joinedFacts
  exact (and2 (and2 (and2 (and2 (and2 (and2 (and2 (and2 (and2 (and2 (and2 (and2 (and2 (and2 (and2 (and2 (and2 (and2 (and2 (and2 (and2 (and2 (and2 (and2 (and2 (and2 (and2 (and2 (and2 (and2 (and2 c4_0 c4_1) c4_2) c4_3) c4_4) c4_5) c4_6) c4_7) c4_8) c4_9) c4_10) c4_11) c4_12) c4_13) c4_14) c4_15) c4_16) c4_17) c4_18) c4_19) c4_20) c4_21) c4_22) c4_23) c4_24) c4_25) c4_26) c4_27) (by kernel_rfl)) c4_29) c4_30) c4_31)
theorem named4 : Tryz.prog.funcNamed Rows.waitNamesRow.func = some 4 := by kernel_rfl
theorem wrap4 : Func.isWrapper Tryz.prog Tryz.f4 Rows.waitNamesRow.wrapper Rows.waitNamesRow.mainSum := by unfold Func.isWrapper; first | (rw [if_pos (by decide +kernel)]; kernel_rfl) | (rw [if_neg (by decide +kernel)]; exact ⟨rfl, rfl⟩)
theorem inst4 : Tryz.f4.isInstance Tryz.prog Rows.waitNamesRow.origin Rows.waitNamesRow.targs := of_decide_eq_true (by kernel_rfl)
end Go.Proofs.YtgboonfbfapaaaaGreat
