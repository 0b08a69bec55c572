/- awake returns true. -/
import Derived.Test.YtgboonfbfapaaaaGreatRa
import Derived.Test.YtgboonfbfapaaaaGreatRb
import Derived.Test.YtgboonfbfapaaaaGreatRc
import Derived.Test.YtgboonfbfapaaaaGreatRd
import Derived.Test.YtgboonfbfapaaaaGreatRe
import Derived.Test.YtgboonfbfapaaaaGreatRf
import Derived.Test.YtgboonfbfapaaaaGreatRg
import Derived.Test.YtgboonfbfapaaaaGreatRh
import Derived.Test.YtgboonfbfapaaaaGreatGa
set_option linter.unusedVariables false
set_option linter.unusedSimpArgs false
set_option linter.unusedSectionVars false
namespace Go.Proofs.YtgboonfbfapaaaaGreat
open Go.Fg
/-- Known answers. -/
noncomputable def plT (T : List (Nat × List IV × IV)) : Pos → List IV → Option IV := fun k a => match T with
  | [] => none
  | e :: t => cond (cond (Pos.eq k (pos e.1)) (beqDeeps a e.2.1) false) (some e.2.2) (plT t k a)
theorem plT_sim : ∀ {T : List (Nat × List IV × IV)}, (∀ e ∈ T, e.1 < 1000000 ∧ Tells P9 e.1 e.2.1 e.2.2) → PSim P9 (plT T)
  | [], _, k, a, r, hk, h => by cases h
  | e :: t, hT, k, a, r, hk, h => by
    have h : cond (cond (Pos.eq (pos k) (pos e.1)) (beqDeeps a e.2.1) false) (some e.2.2) (plT t (pos k) a) = some r := h
    cases c : cond (Pos.eq (pos k) (pos e.1)) (beqDeeps a e.2.1) false with
    | true =>
      rw [c] at h; cases h
      obtain ⟨c1, c2⟩ := Go.Fg.cond_true c
      obtain ⟨n1, n2⟩ := hT e (List.mem_cons_self ..)
      have := pos_inj hk n1 (Pos.eq_true c1)
      subst this
      rw [beqDeeps_eq _ c2]; exact n2
    | false =>
      rw [c] at h
      exact plT_sim (T := t) (fun e he => hT e (List.mem_cons_of_mem _ he)) k a r hk h
noncomputable def knowA : List (Nat × List IV × IV) := [(10, [alV, i0V], rh1), (18, [alV, i0V, .i .i64 0], rw1), (13, [alV, i0V], ro1), (12, [tiV, i0V], rt1), (13, [tiV, i0V], ro2), (10, [heV, inV []], rh2), (18, [heV, inV [], .i .i64 0], rw2), (10, [heV, inV [[.i .i64 7]]], rh3)]
theorem knowA_ok : ∀ e ∈ knowA, e.1 < 1000000 ∧ Tells P9 e.1 e.2.1 e.2.2 := by
  intro e he
  simp only [knowA, List.mem_cons, List.not_mem_nil, or_false] at he
  rcases he with rfl | rfl | rfl | rfl | rfl | rfl | rfl | rfl
  · exact ⟨by decide, goT_tells (by decide) h1⟩
  · exact ⟨by decide, goT_tells (by decide) w1⟩
  · exact ⟨by decide, goT_tells (by decide) o1⟩
  · exact ⟨by decide, goT_tells (by decide) t1⟩
  · exact ⟨by decide, goT_tells (by decide) o2⟩
  · exact ⟨by decide, goT_tells (by decide) h2⟩
  · exact ⟨by decide, goT_tells (by decide) w2⟩
  · exact ⟨by decide, goT_tells (by decide) h3⟩
/-- The functions whose answers are told by contents. -/
noncomputable def impA : Pos → Bool := fun p => notB (memN (p.num - 1) [10, 12, 13, 18])
noncomputable def cfA : CallF := callP (plT knowA) impA (tab P9 Z9) 100000000 1000
theorem cfA_sim : CSim P9 cfA := callP_sound (Z := Z9) hm9 tab_ok (plT_sim knowA_ok) 1000
noncomputable def goA (k : Nat) (args : List IV) (u : IV) : Bool := match cfA (pos k) args Hp.empty with
  | some (r, h) => (match frz h r with
    | some (x, _) => beqDeep x u
    | none => false)
  | none => false
theorem goA_tells {k : Nat} {args : List IV} {u : IV} (hk : k < 1000000) (h : goA k args u = true) : Tells P9 k args u := by
  unfold goA at h
  split at h
  · rename_i r h2 e
    split at h
    · rename_i x h3 e3
      rw [beqDeep_eq _ h] at e3
      exact tells_of cfA_sim hk e e3
    · cases h
  · cases h
theorem awake_run : goA 5 [] (.b true) = true := by kernel_rfl
/-- awake RETURNS TRUE. -/
theorem awake_tells : Tells P9 5 [] (.b true) := goA_tells (by decide) awake_run
end Go.Proofs.YtgboonfbfapaaaaGreat
/- WaitLess returns true whatever the input. -/
namespace Go.Proofs.YtgboonfbfapaaaaGreat
open Go.Fg

noncomputable def plA : Pos → List IV → Option IV := plT [(5, [], .b true)]
theorem plA_sim : PSim P9 plA := plT_sim fun e he => by
  rw [List.mem_singleton] at he
  subst he
  exact ⟨by decide, awake_tells⟩
/-- The machine of a law: calls by contents, awake's answer known. -/
noncomputable def cfL : CallF := pureC plA W9
theorem cfL_sim : CSim P9 cfL := pureC_sound plA_sim (W_sound (by kernel_rfl) tab_ok (psim_none _))
theorem cfL_known (h : Hp) : cfL (pos 5) [] h = some (.b true, h) := rfl
theorem cfL_of {k : Nat} {args : List IV} {r : IV} (g : Gives k args r) (hk : Pos.eq (pos k) (pos 5) = false) (ha : args.all imm = true) (hr : imm r = true) (h : Hp) : cfL (pos k) args h = some (r, h) := by
  show pureC plA W9 (pos k) args h = _
  unfold pureC
  rw [frzs_imm ha]
  have : plA (pos k) args = none := by unfold plA plT; simp only []; rw [hk]; rfl
  simp only [this, g.at ha, frz_imm hr]
theorem tells_law {k : Nat} (hk : k < 1000000) (ok : okk k = true) {args : List IV} {r : IV} {h2 : Hp} (e : xx cfL k args Hp.empty = some (r, h2)) (hr : imm r = true) : Tells P9 k args r := by
  obtain ⟨fn, h1, h2', h3, h4, _⟩ := okN_inv ok
  have e' : runW cfL fn args Hp.empty = some (r, h2) := by rw [runW_eq h3, ← h2']; exact e
  obtain ⟨N, hN⟩ := runW_inv e'
  have e'' : callT (tab P9 Z9) N cfL (pos k) args Hp.empty = some (r, h2) := by unfold callT; rw [h1]; exact hN
  exact tells_of (callT_sound (by kernel_rfl) tab_ok cfL_sim pureC_up) hk e'' (frz_imm hr h2)
theorem less_tells (a b : Want) : Tells P9 3 [.agg a.c, .agg b.c] (.b true) := by
  have hp : ((Hp.empty.new (.cells 7 a.c)).new (.cells 7 b.c)).get .h = some (.cells 7 a.c) := by simp
  have hq : ((Hp.empty.new (.cells 7 a.c)).new (.cells 7 b.c)).get (.o .h) = some (.cells 7 b.c) := by simp
  refine tells_law (h2 := (Hp.empty.new (.cells 7 a.c)).new (.cells 7 b.c)) (by decide) ok3 ?_ rfl
  rw [r3]
  simp only [bl_eq, cells_agg, lenN_eq, Hp.next_new, empty_next, Pos.nxt_h, Want.c_len]
  generalize (Hp.empty.new (.cells 7 a.c)).new (.cells 7 b.c) = H at hp hq
  have a7 : H.read .h 0 7 = some a.c := by rw [read_eq (m := 7) (l := a.c) (by rw [hp]; rfl), if_pos (by decide), if_pos rfl]
  have b7 : H.read (.o .h) 0 7 = some b.c := by rw [read_eq (m := 7) (l := b.c) (by rw [hq]; rfl), if_pos (by decide), if_pos rfl]
  have fa : evFa 1 [.p .h 0] = some (.p .h 1) := rfl
  have fb : evFa 1 [.p (.o .h) 0] = some (.p (.o .h) 1) := rfl
  have a1 : evLd1 H [.p .h 1] = some (sl Hop.c a.path) := ld1_of hp
  have b1 : evLd1 H [.p (.o .h) 1] = some (sl Hop.c b.path) := ld1_of hq
  have own : ∀ w : Want, w.path.length < 1000000 → ∀ h, cfL (pos 7) [.agg w.c] h = some (.agg w.c, h) := fun w hw h => cfL_of (g7 w hw) rfl rfl rfl h
  have ls : ∀ (v w : Want), v.path.length < 1000000 → ∀ h, cfL (pos 6) [.agg v.c, .agg w.c] h = some (.b (decide (cmpV v w < 0)), h) := fun v w hv h => cfL_of (g6 v w (by omega)) rfl rfl rfl h
  have rl : ∀ (v w : Want), v.path.length < 1000000 → ∀ h, cfL (pos 8) [.agg v.c, .agg w.c] h = some (.b (decide (cmpV v w < 0)), h) := fun v w hv h => by rw [← less_cmp]; exact cfL_of (g8 v w (by omega)) rfl rfl rfl h
  have e5 := cfL_known
  have go : a.path.length ≤ 8 → b.path.length ≤ 8 → jj cfL 3 1 [.p (.o .h) 0, .p .h 0] H = some (.b true, H) := fun oa ob => by
    have oA := own a (by omega)
    have oB := own b (by omega)
    have l1 := ls a b (by omega)
    have l2 := ls b a (by omega)
    have l3 := ls a a (by omega)
    have m1 := rl a b (by omega)
    have m2 := rl b a (by omega)
    rw [cmpV_self] at l3
    rw [r3_1]
    simp [a7, b7, oA, oB, l1, l2, l3, m1, m2, e5, consIf]
  by_cases c : (8 : Int) < a.path.length
  · simp [fa, a1, c, e5]
  · by_cases d : (8 : Int) < b.path.length
    · simp [fa, fb, a1, b1, c, d, e5]
    · have g := go (by omega) (by omega)
      simp [fa, fb, a1, b1, c, d, g]
end Go.Proofs.YtgboonfbfapaaaaGreat
