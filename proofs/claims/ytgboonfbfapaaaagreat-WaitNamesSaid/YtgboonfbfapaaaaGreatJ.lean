/- WaitNames returns true. -/
import Derived.Test.YtgboonfbfapaaaaGreatTa
import Derived.Test.YtgboonfbfapaaaaGreatTb
import Derived.Test.YtgboonfbfapaaaaGreatTc
import Derived.Test.YtgboonfbfapaaaaGreatTd
import Derived.Test.YtgboonfbfapaaaaGreatTe
import Derived.Test.YtgboonfbfapaaaaGreatTf
import Derived.Test.YtgboonfbfapaaaaGreatTg
import Derived.Test.YtgboonfbfapaaaaGreatTh
import Derived.Test.YtgboonfbfapaaaaGreatTi
import Derived.Test.YtgboonfbfapaaaaGreatTj
namespace Go.Proofs.YtgboonfbfapaaaaGreat
open Go.Fg
noncomputable def knowA : List (Nat × List IV × IV) := [(10, [v0V, v1V], v2V), (12, [(.sli []), v3V], v2V), (13, [v4V, v3V], v5V), (14, [v6V, v3V, v7V], v8V), (17, [v6V, v3V, v9V], v8V), (18, [v6V, v3V, (.i .i64 1)], v8V), (18, [v4V, v1V, (.i .i64 0)], v8V), (10, [v4V, v1V], v10V), (19, [v4V, v11V], v12V), (17, [v4V, v11V, v13V], v14V), (10, [v6V, v3V], v15V), (18, [v6V, v3V, (.i .i64 0)], v16V), (13, [v6V, v3V], v16V), (12, [v17V, v3V], v15V), (13, [v17V, v3V], v10V), (10, [v18V, v11V], v19V), (18, [v18V, v11V, (.i .i64 0)], v14V), (10, [v18V, v20V], v10V)]
theorem knowA_ok : ∀ e ∈ knowA, e.1 < 1000000 ∧ Tells P9 e.1 e.2.1 e.2.2 := by
  intro e he
  simp only [knowA, List.mem_cons, List.not_mem_nil, or_false] at he
  rcases he with rfl | rfl | rfl | rfl | rfl | rfl | rfl | rfl | rfl | rfl | rfl | rfl | rfl | rfl | rfl | rfl | rfl | rfl
  · exact ⟨by decide, goT_tells (by decide) t0⟩
  · exact ⟨by decide, goT_tells (by decide) t1⟩
  · exact ⟨by decide, goT_tells (by decide) t2⟩
  · exact ⟨by decide, goT_tells (by decide) t3⟩
  · exact ⟨by decide, goT_tells (by decide) t4⟩
  · exact ⟨by decide, goT_tells (by decide) t5⟩
  · exact ⟨by decide, goT_tells (by decide) t6⟩
  · exact ⟨by decide, goT_tells (by decide) t7⟩
  · exact ⟨by decide, goT_tells (by decide) t8⟩
  · exact ⟨by decide, goT_tells (by decide) t9⟩
  · exact ⟨by decide, goT_tells (by decide) t10⟩
  · exact ⟨by decide, goT_tells (by decide) t11⟩
  · exact ⟨by decide, goT_tells (by decide) t12⟩
  · exact ⟨by decide, goT_tells (by decide) t13⟩
  · exact ⟨by decide, goT_tells (by decide) t14⟩
  · exact ⟨by decide, goT_tells (by decide) t15⟩
  · exact ⟨by decide, goT_tells (by decide) t16⟩
  · exact ⟨by decide, goT_tells (by decide) t17⟩
noncomputable def cfA : CallF := callP (plT knowA) (fun p => notB (memN (p.num - 1) [10, 12, 13, 14, 17, 18, 19])) (tab P9 Z9) 100000000 1000
theorem cfA_sim : CSim P9 cfA := callP_sound (Z := Z9) hm9 tab_ok (plT_sim knowA_ok) 1000
noncomputable def goA (k : Nat) (args : List IV) (u : IV) : Bool := match cfA (pos k) args Hp.empty with
  | some (r, h) => (match frz h r with
    | some (x, _) => beqDeep x u
    | none => false)
  | none => false
theorem goA_tells {k : Nat} {args : List IV} {u : IV} (hk : k < 1000000) (h : goA k args u = true) : Tells P9 k args u := by
  unfold goA at h
  split at h
  · rename_i r h2 e
    split at h
    · rename_i x h3 e3
      rw [beqDeep_eq _ h] at e3
      exact tells_of cfA_sim hk e e3
    · cases h
  · cases h
theorem names_run : goA 4 [] (.b true) = true := by kernel_rfl
/-- WaitNames RETURNS TRUE. -/
theorem names_tells : Tells P9 4 [] (.b true) := goA_tells (by decide) names_run
end Go.Proofs.YtgboonfbfapaaaaGreat
