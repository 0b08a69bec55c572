/- Known calls. -/
import Derived.Test.YtipaofnpdolfgaaGreatBb
import Derived.Test.YtipaofnpdolfgaaGreatBc
import Derived.Test.YtipaofnpdolfgaaGreatR0
import Derived.Test.YtipaofnpdolfgaaGreatR1
namespace Go.Proofs.YtipaofnpdolfgaaGreat
open Go.Fg
theorem kCP : goC cfN 65 [pwV] (nn 0) = true := by kernel_rfl
theorem kCH : goC cfN 65 [heldV] (nn 0) = true := by kernel_rfl
theorem kFP : goC cfN 66 [pwV] (.tup [nn 0, nn 0]) = true := by kernel_rfl
theorem kFH : goC cfN 66 [heldV] (.tup [nn 0, nn 0]) = true := by kernel_rfl
end Go.Proofs.YtipaofnpdolfgaaGreat
/- The machine with these answers. -/
namespace Go.Proofs.YtipaofnpdolfgaaGreat
open Go.Fg
/-- Known answers. -/
noncomputable def plT (T : List (Nat × List IV × IV)) : Pos → List IV → Option IV := fun k a => match T with
  | [] => none
  | e :: t => cond (cond (Pos.eq k (pos e.1)) (beqDeeps a e.2.1) false) (some e.2.2) (plT t k a)
theorem plT_sim : ∀ {T : List (Nat × List IV × IV)}, (∀ e ∈ T, e.1 < 1000000 ∧ Tells P9 e.1 e.2.1 e.2.2) → PSim P9 (plT T)
  | [], _, k, a, r, hk, h => by cases h
  | e :: t, hT, k, a, r, hk, h => by
    have h : cond (cond (Pos.eq (pos k) (pos e.1)) (beqDeeps a e.2.1) false) (some e.2.2) (plT t (pos k) a) = some r := h
    cases c : cond (Pos.eq (pos k) (pos e.1)) (beqDeeps a e.2.1) false with
    | true =>
      rw [c] at h; cases h
      obtain ⟨c1, c2⟩ := Go.Fg.cond_true c
      obtain ⟨n1, n2⟩ := hT e (List.mem_cons_self ..)
      have := pos_inj hk n1 (Pos.eq_true c1)
      subst this
      rw [beqDeeps_eq _ c2]; exact n2
    | false =>
      rw [c] at h
      exact plT_sim (T := t) (fun e he => hT e (List.mem_cons_of_mem _ he)) k a r hk h
noncomputable def knowK : List (Nat × List IV × IV) := [(65, [pwV], nn 0), (65, [heldV], nn 0), (66, [pwV], .tup [nn 0, nn 0]), (66, [heldV], .tup [nn 0, nn 0]), (87, [heldV, i3V], runH), (88, [heldV, i3V], f40), (87, [pwV, i3V], runP), (88, [pwV, i3V], finP)]
theorem knowK_ok : ∀ e ∈ knowK, e.1 < 1000000 ∧ Tells P9 e.1 e.2.1 e.2.2 := by
  intro e he
  simp only [knowK, List.mem_cons, List.not_mem_nil, or_false] at he
  rcases he with rfl | rfl | rfl | rfl | rfl | rfl | rfl | rfl
  · exact ⟨by decide, goC_tells cfN_sim (by decide) kCP⟩
  · exact ⟨by decide, goC_tells cfN_sim (by decide) kCH⟩
  · exact ⟨by decide, goC_tells cfN_sim (by decide) kFP⟩
  · exact ⟨by decide, goC_tells cfN_sim (by decide) kFH⟩
  · exact ⟨by decide, goC_tells (cfP_sim x7) (by decide) tRH⟩
  · exact ⟨by decide, goC_tells (cfP_sim x4) (by decide) tFH⟩
  · exact ⟨by decide, goC_tells (cfQ_sim x7) (by decide) tRP⟩
  · exact ⟨by decide, goC_tells (cfQ_sim x4) (by decide) tFP⟩
noncomputable def plA : Pos → List IV → Option IV := fun f args => cond (Pos.eq f (pos 60)) (match args with
  | [a, b, .i .i64 (.ofNat k)] => cond (beqDeep a heldV) (cond (beqDeep b i3V) fs[k]? none) none
  | _ => none) none
theorem plA_sim : PSim P9 plA := fun n args r hn h => by
  obtain ⟨h1, g⟩ := cond_some h
  clear h
  have := pos_inj hn (by decide) (Pos.eq_true h1)
  subst this
  split at g
  · obtain ⟨h2, g⟩ := cond_some g
    obtain ⟨h3, g⟩ := cond_some g
    rw [beqDeep_eq _ h2, beqDeep_eq _ h3]
    exact afs _ _ g
  · cases g
noncomputable def plK : Pos → List IV → Option IV := fun f a => match plA f a with
  | some r => some r
  | none => plT knowK f a
theorem plK_sim : PSim P9 plK := fun n args r hn h => by
  unfold plK at h
  split at h
  · cases h; exact plA_sim _ _ _ hn ‹_›
  · exact plT_sim knowK_ok _ _ _ hn h
noncomputable def orK : CallF := forO [60, 65, 66, 87, 88] (pureC plK (fun _ _ _ => none))
theorem orK_sim : CSim P9 orK ∧ CUp orK := forO_sim (pureO_sim plK_sim)
noncomputable def cfK : CallF := callX orK (tab P9 Z9) 100000000 1000
theorem cfK_sim : CSim P9 cfK := callX_sound (Z := Z9) hm9 tab_ok orK_sim 1000
theorem cfK_up : CUp cfK := callX_up orK_sim.2 1000
end Go.Proofs.YtipaofnpdolfgaaGreat
