/- WaitLess returns true for all inputs, and the inputs read afterwards as they did before. No condition. -/
import Derived.Test.YtgboonfbfapaaaaGreatJ
import Derived.Test.YtgboonfbfapaaaaGreatFd
import Derived.Test.YtgboonfbfapaaaaGreatLe
import Derived.Test.YtgboonfbfapaaaaGreatRows
import Derived.WalkKit
import Derived.ProofKit
import Derived.OpenShut
set_option linter.unusedVariables false
set_option linter.unusedSimpArgs false
set_option linter.unusedSectionVars false
set_option linter.unusedVariables false
namespace Go.Proofs.YtgboonfbfapaaaaGreat
open Go.Fg Go.ChangeShapes Go.WideShapes Go.ChangeAt Go.RowKit

theorem own : ownKnob Tryz.prog.godebug = none := by kernel_rfl
theorem laidOut : laidOutB Tryz.prog = true := by kernel_rfl
theorem rowed : mapsRowed Tryz.prog = true := by kernel_rfl
theorem full : slicesFull Tryz.prog = true := by kernel_rfl


theorem rd3 : Reads P9 3 (fun n : Int => [IV.i .i64 n]) isI := Reads.int Tryz.underlying3
theorem rd5 : Reads P9 5 (fun n : Int => [IV.i .u8 n]) isU8 := Reads.int Tryz.underlying5
theorem rd84 : Reads P9 84 Hop.c Hop.ok := (Reads.struct Tryz.underlying84 (N := 2) (by kernel_rfl) (.cons rfl (m := 1) (by kernel_rfl) rd3 (.cons rfl (m := 1) (by kernel_rfl) rd3 .nil))).map (fun x => ⟨x.1, x.2.1⟩) (fun _ => rfl) (fun _ h => ⟨h.1, h.2.1⟩)
theorem rd22 : Reads P9 22 (fun l => [sl Hop.c l]) (oks Hop.ok) := Reads.slice Tryz.underlying22 (z := 2) (by kernel_rfl) (by decide) rd84
theorem rd24 : Reads P9 24 From.c (fun _ => True) := (Reads.struct Tryz.underlying24 (N := 2) (by kernel_rfl) (.cons rfl (m := 1) (by kernel_rfl) rd3 (.cons rfl (m := 1) (by kernel_rfl) rd3 .nil))).map (fun x => ⟨x.1, x.2.1⟩) (fun _ => rfl) (fun _ _ => trivial)
theorem rd26 : Reads P9 26 Want.c (fun _ => True) :=
  (Reads.struct Tryz.underlying26 (N := 7) (by kernel_rfl) (.cons rfl (m := 1) (by kernel_rfl) rd5 (.cons rfl (m := 1) (by kernel_rfl) rd22 (.cons rfl (m := 2) (by kernel_rfl) rd24 (.cons rfl (m := 1) (by kernel_rfl) rd3 (.cons rfl (m := 1) (by kernel_rfl) rd3 (.cons rfl (m := 1) (by kernel_rfl) rd3 .nil))))))).map
    (fun x => ⟨x.1, x.2.1, x.2.2.1.node, x.2.2.1.out, x.2.2.2.1, x.2.2.2.2.1, x.2.2.2.2.2.1⟩) (fun _ => rfl) (fun _ _ => trivial)
set_option maxRecDepth 100000 in
theorem lifted3 (os : Os) (started : os.Started) (H : Type) (enc : TypeId × Value → H) :
    ReturnsInHanded {} Tryz.checked os 3 .any (Rows.waitLessSpec.pre6 enc Tryz.prog Tryz.f3 Rows.waitLessRow.domain false) (Rows.waitLessSpec.post enc Tryz.prog Tryz.f3 false true false false) := by
  refine returnsInHanded_of_change (C := Tryz.checked) own started (by kernel_rfl) Tryz.func3
    (ChangeSpec.witness6 (enc := enc) (C := Tryz.checked) false ⟨#[], #[.agg #[.int .u8 0, .slice none 0 0, .int .i64 0, .int .i64 0, .int .i64 0, .int .i64 0, .int .i64 0], .agg #[.int .u8 0, .slice none 0 0, .int .i64 0, .int .i64 0, .int .i64 0, .int .i64 0, .int .i64 0]], []⟩ 8 (by kernel_rfl) (by kernel_rfl) (by kernel_rfl) (by kernel_rfl)) ?_
  intro W base args ds gs before hval0 hW hcnd _
  have hval : ∀ (j : Nat) t v, Tryz.f3.params[j]? = some t → args[j]? = some v → Value.okWide Tryz.prog W .any base t v := hval0
  have hW' := hW
  obtain ⟨p, q, hA0, hV, rfl, hfz, hnd⟩ := hW
  have hA : DataW.TrodAll enc Tryz.prog W 0 (fun _ => true) true Tryz.f3.params.toList args.toList ds p := hA0
  have hA1 := hA
  rw [Tryz.params3] at hA hval
  obtain ⟨v0, v1, d0, d1, p0, p1, rfl, rfl, rfl, h0, h1⟩ := trodAll_two hA
  obtain ⟨rfl, rfl⟩ := trodVars_none hV
  obtain ⟨a, oa, va⟩ := rd26.agg Tryz.underlying26 (hval 0 26 v0 rfl rfl) h0
  obtain ⟨b, ob, vb⟩ := rd26.agg Tryz.underlying26 (hval 1 26 v1 rfl rfl) h1
  clear hA0 hval0
  simp only [List.append_nil] at hW'
  refine (law_true (less_tells a b) (.cons _ _ _ _ va (.cons _ _ _ _ vb .nil))).mono fun e W' ⟨he, hg⟩ => ?_
  subst he
  exact ⟨_, rfl, post_of_same (pa := p0 ++ p1) (pv := []) hW' (fun _ _ _ => trodAll_mk1 (shut_bool Tryz.underlying4 _)) (fun sp hsp => trodAll_stays laidOut rowed full hg (by rw [Tryz.params3]; decide +kernel) hA1 hsp) (fun _ _ => rfl) (by simp)
    (hg.frame _) hg.2.1 (ok_one (by kernel_rfl) rfl (okWide_bool_mk Tryz.underlying4 _))⟩
/-- WAITLESS. -/
theorem waitLess : Rows.WaitLessSaid :=
  OpenClaim.holds_of_wide 3 Tryz.f3 rfl rfl rfl rfl rfl rfl rfl ⟨rfl, rfl, rfl, rfl, rfl⟩ rfl rfl rfl rfl rfl named3 Tryz.func3 closed3 inst3 wrap3
    (fun os started H enc _ => lifted3 os started H enc)
#print axioms waitLess
end Go.Proofs.YtgboonfbfapaaaaGreat
