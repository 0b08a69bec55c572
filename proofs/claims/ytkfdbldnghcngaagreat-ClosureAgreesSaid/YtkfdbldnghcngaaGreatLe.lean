/- Closed facts of ClosureAgrees' row, together. -/
import Derived.Test.YtkfdbldnghcngaaGreatLa
import Derived.Test.YtkfdbldnghcngaaGreatLb
import Derived.Test.YtkfdbldnghcngaaGreatLc
import Derived.Test.YtkfdbldnghcngaaGreatLd
import Derived.Test.YtkfdbldnghcngaaGreatEa
import Derived.Test.YtkfdbldnghcngaaGreatRows
import Derived.WalkKit
import Derived.ProofKit
import Derived.OpenShut
set_option linter.unusedVariables false
namespace Go.Proofs.YtkfdbldnghcngaaGreat
theorem and2 {a b : Bool} (h : a = true) (k : b = true) : (a && b) = true := by rw [h, k]; rfl
theorem closed7 : joinedFacts Tryz.prog 7 Tryz.f7 Rows.closureAgreesSpec Rows.closureAgreesRow = true := by
  unfold joinedFacts
  exact (and2 (and2 (and2 (and2 (and2 (and2 (and2 (and2 (and2 (and2 (and2 (and2 (and2 (and2 (and2 (and2 (and2 (and2 (and2 (and2 (and2 (and2 (and2 (and2 (and2 (and2 (and2 (and2 (and2 (and2 (and2 c7_0 c7_1) c7_2) c7_3) c7_4) c7_5) c7_6) c7_7) c7_8) c7_9) c7_10) c7_11) c7_12) c7_13) c7_14) c7_15) c7_16) c7_17) c7_18) c7_19) c7_20) c7_21) c7_22) c7_23) c7_24) c7_25) c7_26) c7_27) (by kernel_rfl)) c7_29) c7_30) c7_31)
theorem named7 : Tryz.prog.funcNamed Rows.closureAgreesRow.func = some 7 := by kernel_rfl
theorem wrap7 : Func.isWrapper Tryz.prog Tryz.f7 Rows.closureAgreesRow.wrapper Rows.closureAgreesRow.mainSum := by unfold Func.isWrapper; first | (rw [if_pos (by decide +kernel)]; kernel_rfl) | (rw [if_neg (by decide +kernel)]; exact ⟨rfl, rfl⟩)
theorem inst7 : Tryz.f7.isInstance Tryz.prog Rows.closureAgreesRow.origin Rows.closureAgreesRow.targs := of_decide_eq_true (by kernel_rfl)
end Go.Proofs.YtkfdbldnghcngaaGreat
/- The frame of ClosureAgrees. -/
namespace Go.Proofs.YtkfdbldnghcngaaGreat
open Go.Fg Go.ChangeShapes Go.WideShapes Go.ChangeAt Go.RowKit

theorem own : ownKnob Tryz.prog.godebug = none := by kernel_rfl
theorem laidOut : laidOutB Tryz.prog = true := by kernel_rfl
theorem rowed : mapsRowed Tryz.prog = true := by kernel_rfl
theorem full : slicesFull Tryz.prog = true := by kernel_rfl

section
variable (tells : ∀ a b : Outcome, a.ok → b.ok → Tells P9 7 [.agg a.c, .agg b.c] (.b true))
set_option maxRecDepth 100000 in
theorem lifted7 (tells : ∀ a b : Outcome, a.ok → b.ok → Tells P9 7 [.agg a.c, .agg b.c] (.b true)) (os : Os) (started : os.Started) (H : Type) (enc : TypeId × Value → H) :
    ReturnsInHanded {} Tryz.checked os 7 .any (Rows.closureAgreesSpec.pre6 enc Tryz.prog Tryz.f7 Rows.closureAgreesRow.domain false) (Rows.closureAgreesSpec.post enc Tryz.prog Tryz.f7 false true false false) := by
  refine returnsInHanded_of_change (C := Tryz.checked) own started (by kernel_rfl) Tryz.func7
    (ChangeSpec.witness6 (enc := enc) (C := Tryz.checked) false ⟨#[], #[.agg #[.slice none 0 0, .slice none 0 0, .int .i64 0, .int .i64 0, .int .i64 0, .int .i64 0, .slice none 0 0], .agg #[.slice none 0 0, .slice none 0 0, .int .i64 0, .int .i64 0, .int .i64 0, .int .i64 0, .slice none 0 0]], []⟩ 8 (by kernel_rfl) (by kernel_rfl) (by kernel_rfl) (by kernel_rfl)) ?_
  intro W base args ds gs before hval0 hW hcnd _
  have hval : ∀ (j : Nat) t v, Tryz.f7.params[j]? = some t → args[j]? = some v → Value.okWide Tryz.prog W .any base t v := hval0
  have hW' := hW
  obtain ⟨p, q, hA0, hV, rfl, hfz, hnd⟩ := hW
  have hA : DataW.TrodAll enc Tryz.prog W 0 (fun _ => true) true Tryz.f7.params.toList args.toList ds p := hA0
  have hA1 := hA
  rw [Tryz.params7] at hA hval
  obtain ⟨v0, v1, d0, d1, p0, p1, rfl, rfl, rfl, h0, h1⟩ := trodAll_two hA
  obtain ⟨rfl, rfl⟩ := trodVars_none hV
  obtain ⟨a, oa, va⟩ := rd37.agg Tryz.underlying37 (hval 0 37 v0 rfl rfl) h0
  obtain ⟨b, ob, vb⟩ := rd37.agg Tryz.underlying37 (hval 1 37 v1 rfl rfl) h1
  clear hA0 hval0
  simp only [List.append_nil] at hW'
  refine (law_true (tells a b oa ob) (.cons _ _ _ _ va (.cons _ _ _ _ vb .nil))).mono fun e W' ⟨he, hg⟩ => ?_
  subst he
  exact ⟨_, rfl, post_of_same (pa := p0 ++ p1) (pv := []) hW' (fun _ _ _ => trodAll_mk1 (shut_bool Tryz.underlying4 _)) (fun sp hsp => trodAll_stays laidOut rowed full hg (by rw [Tryz.params7]; decide +kernel) hA1 hsp) (fun _ _ => rfl) (by simp)
    (hg.frame _) hg.2.1 (ok_one (by kernel_rfl) rfl (okWide_bool_mk Tryz.underlying4 _))⟩
/-- CLOSUREAGREES, from what the function tells. -/
theorem agrees_of (tells : ∀ a b : Outcome, a.ok → b.ok → Tells P9 7 [.agg a.c, .agg b.c] (.b true)) : Rows.ClosureAgreesSaid :=
  OpenClaim.holds_of_wide 7 Tryz.f7 rfl rfl rfl rfl rfl rfl rfl ⟨rfl, rfl, rfl, rfl, rfl⟩ rfl rfl rfl rfl rfl named7 Tryz.func7 closed7 inst7 wrap7
    (fun os started H enc _ => lifted7 tells os started H enc)
end
end Go.Proofs.YtkfdbldnghcngaaGreat
