/- Closed facts of BoundNames' row, together. -/
import Derived.Test.YtipaofnpdolfgaaGreatLa
import Derived.Test.YtipaofnpdolfgaaGreatLb
import Derived.Test.YtipaofnpdolfgaaGreatLc
import Derived.Test.YtipaofnpdolfgaaGreatLd
namespace Go.Proofs.YtipaofnpdolfgaaGreat
theorem and2 {a b : Bool} (h : a = true) (k : b = true) : (a && b) = true := by rw [h, k]; rfl
theorem closed5 : joinedFacts Tryz.prog 5 Tryz.f5 Rows.boundNamesSpec Rows.boundNamesRow = true := by
  unfold joinedFacts
  exact (and2 (and2 (and2 (and2 (and2 (and2 (and2 (and2 (and2 (and2 (and2 (and2 (and2 (and2 (and2 (and2 (and2 (and2 (and2 (and2 (and2 (and2 (and2 (and2 (and2 (and2 (and2 (and2 (and2 (and2 (and2 c5_0 c5_1) c5_2) c5_3) c5_4) c5_5) c5_6) c5_7) c5_8) c5_9) c5_10) c5_11) c5_12) c5_13) c5_14) c5_15) c5_16) c5_17) c5_18) c5_19) c5_20) c5_21) c5_22) c5_23) c5_24) c5_25) c5_26) c5_27) (by kernel_rfl)) c5_29) c5_30) c5_31)
theorem named5 : Tryz.prog.funcNamed Rows.boundNamesRow.func = some 5 := by kernel_rfl
theorem wrap5 : Func.isWrapper Tryz.prog Tryz.f5 Rows.boundNamesRow.wrapper Rows.boundNamesRow.mainSum := by unfold Func.isWrapper; first | (rw [if_pos (by decide +kernel)]; kernel_rfl) | (rw [if_neg (by decide +kernel)]; exact ⟨rfl, rfl⟩)
theorem inst5 : Tryz.f5.isInstance Tryz.prog Rows.boundNamesRow.origin Rows.boundNamesRow.targs := of_decide_eq_true (by kernel_rfl)
end Go.Proofs.YtipaofnpdolfgaaGreat
