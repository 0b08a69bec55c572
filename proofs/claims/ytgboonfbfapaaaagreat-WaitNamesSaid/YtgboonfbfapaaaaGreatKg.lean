/- The machine with these answers. -/
import Derived.Test.YtgboonfbfapaaaaGreatKa
import Derived.Test.YtgboonfbfapaaaaGreatKb
import Derived.Test.YtgboonfbfapaaaaGreatKc
import Derived.Test.YtgboonfbfapaaaaGreatKd
import Derived.Test.YtgboonfbfapaaaaGreatKe
import Derived.Test.YtgboonfbfapaaaaGreatKf
namespace Go.Proofs.YtgboonfbfapaaaaGreat
open Go.Fg
noncomputable def knowK : List (Nat × List IV × IV) := [(51, [v6V], v21V), (52, [v6V, v3V], v22V), (54, [v6V, (.i .i64 0)], v23V), (51, [v17V], v21V), (52, [v17V, v3V], v24V), (54, [v17V, (.i .i64 0)], v25V), (51, [v4V], v21V), (52, [v4V, v1V], v26V), (53, [v4V, v1V], v27V), (52, [v4V, v11V], v28V), (53, [v4V, v11V], v29V), (54, [v4V, (.i .i64 0)], v23V), (54, [v4V, (.i .i64 1)], v30V), (26, [v31V, v13V], (.i .i64 (-1))), (26, [v32V, v13V], (.i .i64 1)), (26, [v33V, v13V], (.i .i64 (-1))), (26, [v13V, v13V], (.i .i64 0)), (26, [v34V, v13V], (.i .i64 1)), (26, [v35V, v13V], (.i .i64 1)), (26, [v36V, v13V], (.i .i64 1)), (26, [v37V, v13V], (.i .i64 1)), (26, [v38V, v13V], (.i .i64 1)), (26, [v39V, v13V], (.i .i64 1)), (26, [v40V, v13V], (.i .i64 1)), (26, [v41V, v13V], (.i .i64 1)), (26, [v42V, v13V], (.i .i64 1)), (26, [v43V, v13V], (.i .i64 1)), (26, [v44V, v13V], (.i .i64 1))]
theorem knowK_ok : ∀ e ∈ knowK, e.1 < 1000000 ∧ Tells P9 e.1 e.2.1 e.2.2 := by
  intro e he
  simp only [knowK, List.mem_cons, List.not_mem_nil, or_false] at he
  rcases he with rfl | rfl | rfl | rfl | rfl | rfl | rfl | rfl | rfl | rfl | rfl | rfl | rfl | rfl | rfl | rfl | rfl | rfl | rfl | rfl | rfl | rfl | rfl | rfl | rfl | rfl | rfl | rfl
  · exact ⟨by decide, goN_tells (by decide) ki⟩
  · exact ⟨by decide, goN_tells (by decide) kj⟩
  · exact ⟨by decide, goN_tells (by decide) kl⟩
  · exact ⟨by decide, goN_tells (by decide) km⟩
  · exact ⟨by decide, goN_tells (by decide) kn⟩
  · exact ⟨by decide, goN_tells (by decide) ko⟩
  · exact ⟨by decide, goN_tells (by decide) kf⟩
  · exact ⟨by decide, goN_tells (by decide) ka⟩
  · exact ⟨by decide, goN_tells (by decide) kb⟩
  · exact ⟨by decide, goN_tells (by decide) kc⟩
  · exact ⟨by decide, goN_tells (by decide) kd⟩
  · exact ⟨by decide, goN_tells (by decide) kg⟩
  · exact ⟨by decide, goN_tells (by decide) kh⟩
  · exact ⟨by decide, goN_tells (by decide) kq0⟩
  · exact ⟨by decide, goN_tells (by decide) kq1⟩
  · exact ⟨by decide, goN_tells (by decide) kq2⟩
  · exact ⟨by decide, goN_tells (by decide) kq3⟩
  · exact ⟨by decide, goN_tells (by decide) kq4⟩
  · exact ⟨by decide, goN_tells (by decide) kq5⟩
  · exact ⟨by decide, goN_tells (by decide) kq6⟩
  · exact ⟨by decide, goN_tells (by decide) kq7⟩
  · exact ⟨by decide, goN_tells (by decide) kq8⟩
  · exact ⟨by decide, goN_tells (by decide) kq9⟩
  · exact ⟨by decide, goN_tells (by decide) kq10⟩
  · exact ⟨by decide, goN_tells (by decide) kq11⟩
  · exact ⟨by decide, goN_tells (by decide) kq12⟩
  · exact ⟨by decide, goN_tells (by decide) kq13⟩
  · exact ⟨by decide, goN_tells (by decide) kq14⟩
/-- With these functions by contents. -/
noncomputable def cfK (l : List Nat) : CallF := callP (plT knowK) (fun p => notB (memN (p.num - 1) l)) (tab P9 Z9) 100000000 1000
theorem cfK_sim (l : List Nat) : CSim P9 (cfK l) := callP_sound (Z := Z9) hm9 tab_ok (plT_sim knowK_ok) 1000
noncomputable def goT (l : List Nat) (k : Nat) (args : List IV) (u : IV) : Bool := match callNU (cfK l) TT 100000 20 (pos k) args Hp.empty with
  | some L => allTell u L
  | none => false
theorem goT_tells {l : List Nat} {k : Nat} {args : List IV} {u : IV} (hk : k < 1000000) (h : goT l k args u = true) : Tells P9 k args u := by
  unfold goT at h
  split at h
  · rename_i L e
    exact tells_T (callNU_sound hm9 (cfK_sim l) TT_ok 20) hk e h
  · cases h
end Go.Proofs.YtgboonfbfapaaaaGreat
