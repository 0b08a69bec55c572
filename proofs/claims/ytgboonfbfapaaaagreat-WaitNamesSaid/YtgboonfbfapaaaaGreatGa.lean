/- The seat's program: lists of outcomes. -/
import Derived.Test.YtgboonfbfapaaaaGreatFd
import Derived.Test.YtgboonfbfapaaaaGreatFe
import Derived.Test.YtgboonfbfapaaaaGreatProg
import Derived.KernelRfl
namespace Go.Proofs.YtgboonfbfapaaaaGreat
open Go.Fg
noncomputable def P9 : Program := Tryz.prog
noncomputable def Z9 : Nat → Oper → Bool := fun _ _ => false
/-- The functions with more than one outcome. -/
def nds : List Nat := [10, 12, 13, 14, 17, 18, 19, 33, 35, 39, 41]
noncomputable def TT : Pos → Option UFn := fun p => cond (memN (p.num - 1) nds) (cond (Nat.ble p.num 1000000) (compUFn P9 (p.num - 1)) none) none
theorem TT_ok : ∀ n f, n < 1000000 → TT (pos n) = some f → compUFn P9 n = some f := fun n f hn h => by
  unfold TT at h
  obtain ⟨_, h⟩ := cond_some h
  obtain ⟨_, h⟩ := cond_some h
  rwa [num_pos hn, Nat.add_sub_cancel] at h
theorem hm9 : P9.follows .mixedOrders = true := by kernel_rfl
noncomputable def cfN : CallF := callN (tab P9 Z9) 100000000 1000
theorem cfN_sim : CSim P9 cfN := sound (Z := Z9) hm9 tab_ok 100000000 1000
noncomputable def goN (k : Nat) (args : List IV) (u : IV) : Bool := match cfN (pos k) args Hp.empty with
  | some (r, h) => (match frz h r with
    | some (x, _) => beqDeep x u
    | none => false)
  | none => false
theorem goN_tells {k : Nat} {args : List IV} {u : IV} (hk : k < 1000000) (h : goN k args u = true) : Tells P9 k args u := by
  unfold goN at h
  split at h
  · rename_i r h2 e
    split at h
    · rename_i x h3 e3
      rw [beqDeep_eq _ h] at e3
      exact tells_of cfN_sim hk e e3
    · cases h
  · cases h
/-- Known answers. -/
noncomputable def plT (T : List (Nat × List IV × IV)) : Pos → List IV → Option IV := fun k a => match T with
  | [] => none
  | e :: t => cond (cond (Pos.eq k (pos e.1)) (beqDeeps a e.2.1) false) (some e.2.2) (plT t k a)
theorem plT_sim : ∀ {T : List (Nat × List IV × IV)}, (∀ e ∈ T, e.1 < 1000000 ∧ Tells P9 e.1 e.2.1 e.2.2) → PSim P9 (plT T)
  | [], _, k, a, r, hk, h => by cases h
  | e :: t, hT, k, a, r, hk, h => by
    have h : cond (cond (Pos.eq (pos k) (pos e.1)) (beqDeeps a e.2.1) false) (some e.2.2) (plT t (pos k) a) = some r := h
    cases c : cond (Pos.eq (pos k) (pos e.1)) (beqDeeps a e.2.1) false with
    | true =>
      rw [c] at h; cases h
      obtain ⟨c1, c2⟩ := Go.Fg.cond_true c
      obtain ⟨n1, n2⟩ := hT e (List.mem_cons_self ..)
      have := pos_inj hk n1 (Pos.eq_true c1)
      subst this
      rw [beqDeeps_eq _ c2]; exact n2
    | false =>
      rw [c] at h
      exact plT_sim (T := t) (fun e he => hT e (List.mem_cons_of_mem _ he)) k a r hk h
end Go.Proofs.YtgboonfbfapaaaaGreat
/- Arguments of the known calls, and their answers. -/
namespace Go.Proofs.YtgboonfbfapaaaaGreat
open Go.Fg
noncomputable def v0V : IV := (.sli [[(.s [109, 97, 105, 110]), (.i .i64 2), (.sli [[(.i .u8 1), (.s []), (.i .i64 0), (.sli [[(.i .i64 (-1)), (.i .i64 0)]])], [(.i .u8 12), (.s []), (.i .i64 0), (.sli [[(.i .i64 (-1)), (.i .i64 1)], [(.i .i64 0), (.i .i64 0)]])], [(.i .u8 1), (.s []), (.i .i64 1), (.sli [[(.i .i64 (-1)), (.i .i64 0)]])], [(.i .u8 9), (.s [109, 97, 105, 110, 46, 48]), (.i .i64 0), (.sli [[(.i .i64 (-1)), (.i .i64 0)], [(.i .i64 1), (.i .i64 0)], [(.i .i64 2), (.i .i64 0)]])]]), (.sli []), (.sli [[(.i .i64 3), (.i .i64 0)]])], [(.s [109, 97, 105, 110, 46, 48]), (.i .i64 3), (.sli [[(.i .u8 1), (.s []), (.i .i64 0), (.sli [[(.i .i64 (-1)), (.i .i64 0)]])], [(.i .u8 4), (.s [108, 116]), (.i .i64 0), (.sli [[(.i .i64 0), (.i .i64 0)], [(.i .i64 (-1)), (.i .i64 1)]])], [(.i .u8 5), (.s []), (.i .i64 0), (.sli [[(.i .i64 1), (.i .i64 0)], [(.i .i64 (-1)), (.i .i64 0)]])], [(.i .u8 5), (.s []), (.i .i64 0), (.sli [[(.i .i64 1), (.i .i64 0)], [(.i .i64 (-1)), (.i .i64 1)]])], [(.i .u8 5), (.s []), (.i .i64 0), (.sli [[(.i .i64 1), (.i .i64 0)], [(.i .i64 (-1)), (.i .i64 2)]])], [(.i .u8 1), (.s []), (.i .i64 1), (.sli [[(.i .i64 2), (.i .i64 0)]])], [(.i .u8 4), (.s [115, 117, 98]), (.i .i64 0), (.sli [[(.i .i64 3), (.i .i64 0)], [(.i .i64 5), (.i .i64 0)]])], [(.i .u8 4), (.s [97, 100, 100]), (.i .i64 0), (.sli [[(.i .i64 (-1)), (.i .i64 2)], [(.i .i64 (-1)), (.i .i64 2)]])]]), (.sli [[(.i .i64 2), (.i .i64 0)], [(.i .i64 6), (.i .i64 0)], [(.i .i64 7), (.i .i64 0)]]), (.sli [[(.i .i64 4), (.i .i64 1)]])]])
noncomputable def v1V : IV := (.agg [(.sli [[(.sli [[(.i .i64 1)]])]]), (.sli [[(.b true)]])])
noncomputable def v2V : IV := (.tup [(.sli []), (.i .i64 9)])
noncomputable def v3V : IV := (.agg [(.sli []), (.sli [])])
noncomputable def v4V : IV := (.sli [[(.s [109, 97, 105, 110]), (.i .i64 2), (.sli [[(.i .u8 1), (.s []), (.i .i64 0), (.sli [[(.i .i64 (-1)), (.i .i64 0)]])], [(.i .u8 12), (.s []), (.i .i64 0), (.sli [[(.i .i64 (-1)), (.i .i64 1)], [(.i .i64 0), (.i .i64 0)]])], [(.i .u8 1), (.s []), (.i .i64 1), (.sli [[(.i .i64 (-1)), (.i .i64 0)]])], [(.i .u8 9), (.s [109, 97, 105, 110, 46, 48]), (.i .i64 0), (.sli [[(.i .i64 (-1)), (.i .i64 0)], [(.i .i64 1), (.i .i64 0)], [(.i .i64 2), (.i .i64 0)]])]]), (.sli []), (.sli [[(.i .i64 3), (.i .i64 0)]])], [(.s [109, 97, 105, 110, 46, 48]), (.i .i64 3), (.sli [[(.i .u8 1), (.s []), (.i .i64 0), (.sli [[(.i .i64 (-1)), (.i .i64 0)]])], [(.i .u8 4), (.s [108, 116]), (.i .i64 0), (.sli [[(.i .i64 0), (.i .i64 0)], [(.i .i64 (-1)), (.i .i64 1)]])], [(.i .u8 5), (.s []), (.i .i64 0), (.sli [[(.i .i64 1), (.i .i64 0)], [(.i .i64 (-1)), (.i .i64 0)]])], [(.i .u8 5), (.s []), (.i .i64 0), (.sli [[(.i .i64 1), (.i .i64 0)], [(.i .i64 (-1)), (.i .i64 1)]])], [(.i .u8 5), (.s []), (.i .i64 0), (.sli [[(.i .i64 1), (.i .i64 0)], [(.i .i64 (-1)), (.i .i64 2)]])], [(.i .u8 1), (.s []), (.i .i64 1), (.sli [[(.i .i64 2), (.i .i64 0)]])], [(.i .u8 4), (.s [115, 117, 98]), (.i .i64 0), (.sli [[(.i .i64 3), (.i .i64 0)], [(.i .i64 5), (.i .i64 0)]])], [(.i .u8 4), (.s [97, 100, 100]), (.i .i64 0), (.sli [[(.i .i64 4), (.i .i64 0)], [(.i .i64 4), (.i .i64 0)]])]]), (.sli [[(.i .i64 2), (.i .i64 0)], [(.i .i64 6), (.i .i64 0)], [(.i .i64 7), (.i .i64 0)]]), (.sli [[(.i .i64 4), (.i .i64 1)]])]])
noncomputable def v5V : IV := (.tup [(.sli []), (.i .i64 2)])
noncomputable def v6V : IV := (.sli [[(.s [109, 97, 105, 110]), (.i .i64 1), (.sli [[(.i .u8 1), (.s []), (.i .i64 2), (.sli [[(.i .i64 (-1)), (.i .i64 0)]])], [(.i .u8 10), (.s []), (.i .i64 0), (.sli [[(.i .i64 0), (.i .i64 0)]])], [(.i .u8 1), (.s []), (.i .i64 0), (.sli [[(.i .i64 (-1)), (.i .i64 0)]])], [(.i .u8 12), (.s []), (.i .i64 0), (.sli [[(.i .i64 1), (.i .i64 0)], [(.i .i64 2), (.i .i64 0)]])]]), (.sli []), (.sli [[(.i .i64 3), (.i .i64 0)]])]])
noncomputable def v7V : IV := (.agg [(.i .u8 1), (.sli []), (.i .i64 2), (.i .i64 0), (.i .i64 0), (.i .i64 0), (.i .i64 0)])
noncomputable def v8V : IV := (.tup [(.sli []), (.i .i64 7)])
noncomputable def v9V : IV := (.agg [(.i .u8 1), (.sli []), (.i .i64 3), (.i .i64 0), (.i .i64 0), (.i .i64 1), (.i .i64 0)])
noncomputable def v10V : IV := (.tup [(.sli []), (.i .i64 0)])
noncomputable def v11V : IV := (.agg [(.sli [[(.sli [])]]), (.sli [[(.b false)]])])
noncomputable def v12V : IV := (.tup [(.sli [[(.i .i64 0)]]), (.i .i64 0)])
noncomputable def v13V : IV := (.agg [(.i .u8 1), (.sli []), (.i .i64 3), (.i .i64 0), (.i .i64 0), (.i .i64 0), (.i .i64 0)])
noncomputable def v14V : IV := (.tup [(.sli [[(.i .u8 3), (.sli []), (.i .i64 0), (.i .i64 0), (.i .i64 0), (.i .i64 0), (.i .i64 0)]]), (.i .i64 0)])
noncomputable def v15V : IV := (.tup [(.sli [[(.i .u8 1), (.sli []), (.i .i64 3), (.i .i64 0), (.i .i64 0), (.i .i64 0), (.i .i64 0)], [(.i .u8 2), (.sli []), (.i .i64 0), (.i .i64 0), (.i .i64 1), (.i .i64 0), (.i .i64 0)]]), (.i .i64 0)])
noncomputable def v16V : IV := (.tup [(.sli [[(.i .u8 2), (.sli []), (.i .i64 0), (.i .i64 0), (.i .i64 1), (.i .i64 0), (.i .i64 0)]]), (.i .i64 0)])
noncomputable def v17V : IV := (.sli [[(.s [109, 97, 105, 110]), (.i .i64 1), (.sli [[(.i .u8 1), (.s []), (.i .i64 2), (.sli [[(.i .i64 (-1)), (.i .i64 0)]])], [(.i .u8 10), (.s []), (.i .i64 0), (.sli [[(.i .i64 0), (.i .i64 0)]])], [(.i .u8 1), (.s []), (.i .i64 0), (.sli [[(.i .i64 (-1)), (.i .i64 0)]])], [(.i .u8 12), (.s []), (.i .i64 0), (.sli [[(.i .i64 1), (.i .i64 0)], [(.i .i64 2), (.i .i64 0)]])], [(.i .u8 11), (.s []), (.i .i64 0), (.sli [[(.i .i64 1), (.i .i64 0)], [(.i .i64 2), (.i .i64 0)], [(.i .i64 3), (.i .i64 0)]])]]), (.sli []), (.sli [[(.i .i64 3), (.i .i64 0)]])]])
noncomputable def v18V : IV := (.sli [[(.s [109, 97, 105, 110]), (.i .i64 2), (.sli [[(.i .u8 1), (.s []), (.i .i64 0), (.sli [[(.i .i64 (-1)), (.i .i64 0)]])], [(.i .u8 12), (.s []), (.i .i64 0), (.sli [[(.i .i64 (-1)), (.i .i64 1)], [(.i .i64 0), (.i .i64 0)]])]]), (.sli []), (.sli [[(.i .i64 1), (.i .i64 0)]])]])
noncomputable def v19V : IV := (.tup [(.sli [[(.i .u8 1), (.sli []), (.i .i64 (-1)), (.i .i64 1), (.i .i64 0), (.i .i64 0), (.i .i64 0)], [(.i .u8 1), (.sli []), (.i .i64 1), (.i .i64 0), (.i .i64 0), (.i .i64 0), (.i .i64 0)], [(.i .u8 3), (.sli []), (.i .i64 0), (.i .i64 0), (.i .i64 0), (.i .i64 0), (.i .i64 0)]]), (.i .i64 0)])
noncomputable def v20V : IV := (.agg [(.sli [[(.sli [[(.i .i64 7)]])]]), (.sli [[(.b false)]])])
noncomputable def v21V : IV := (.tup [(.i .i64 0), (.i .i64 0)])
noncomputable def v22V : IV := (.tup [(.agg [(.sli [[(.i .i64 0), (.i .i64 (-1)), (.i .i64 (-1)), (.i .i64 0), (.sli [[(.i .u8 3), (.i .i64 0)]]), (.sli [[(.sli [[(.i .u8 1), (.i .i64 2)]])], [(.sli [[(.i .u8 4), (.i .i64 0)]])], [(.sli [[(.i .u8 1), (.i .i64 0)]])], [(.sli [[(.i .u8 0), (.i .i64 0)]])]]), (.sli [[(.i .i64 1)], [(.i .i64 2)], [(.i .i64 1)], [(.i .i64 3)]])]]), (.sli [[(.sli [[(.i .u8 0), (.i .i64 0)], [(.i .u8 0), (.i .i64 0)]]), (.sli [[(.i .i64 0), (.i .i64 3)]])]]), (.i .i64 3), (.i .i64 4)]), (.i .i64 0)])
noncomputable def v23V : IV := (.tup [(.sli [[(.sli [[(.sli [])]])], [(.sli [[(.sli [])]])], [(.sli [[(.sli [])]])], [(.sli [[(.sli [])]])]]), (.i .i64 0)])
noncomputable def v24V : IV := (.tup [(.agg [(.sli [[(.i .i64 0), (.i .i64 (-1)), (.i .i64 (-1)), (.i .i64 0), (.sli [[(.i .u8 3), (.i .i64 0)]]), (.sli [[(.sli [[(.i .u8 1), (.i .i64 2)]])], [(.sli [[(.i .u8 4), (.i .i64 0)]])], [(.sli [[(.i .u8 1), (.i .i64 0)]])], [(.sli [[(.i .u8 0), (.i .i64 0)]])], [(.sli [])]]), (.sli [[(.i .i64 1)], [(.i .i64 2)], [(.i .i64 1)], [(.i .i64 3)], [(.i .i64 0)]])]]), (.sli [[(.sli [[(.i .u8 0), (.i .i64 0)], [(.i .u8 0), (.i .i64 0)]]), (.sli [[(.i .i64 0), (.i .i64 3)]])]]), (.i .i64 3), (.i .i64 4)]), (.i .i64 0)])
noncomputable def v25V : IV := (.tup [(.sli [[(.sli [[(.sli [])]])], [(.sli [[(.sli [])]])], [(.sli [[(.sli [])]])], [(.sli [[(.sli [])]])], [(.sli [])]]), (.i .i64 0)])
noncomputable def v26V : IV := (.tup [(.agg [(.sli [[(.i .i64 0), (.i .i64 (-1)), (.i .i64 (-1)), (.i .i64 0), (.sli [[(.i .u8 3), (.i .i64 0)], [(.i .u8 4), (.i .i64 0)]]), (.sli [[(.sli [[(.i .u8 1), (.i .i64 0)]])], [(.sli [[(.i .u8 1), (.i .i64 1)]])], [(.sli [[(.i .u8 1), (.i .i64 1)]])], [(.sli [[(.i .u8 1), (.i .i64 2)]])]]), (.sli [[(.i .i64 1)], [(.i .i64 2)], [(.i .i64 1)], [(.i .i64 1)]])], [(.i .i64 1), (.i .i64 0), (.i .i64 3), (.i .i64 0), (.sli [[(.i .u8 3), (.i .i64 0)], [(.i .u8 1), (.i .i64 1)], [(.i .u8 1), (.i .i64 1)]]), (.sli [[(.sli [[(.i .u8 1), (.i .i64 0)]])], [(.sli [[(.i .u8 2), (.i .i64 1)]])], [(.sli [[(.i .u8 3), (.i .i64 0)], [(.i .u8 0), (.i .i64 0)]])], [(.sli [[(.i .u8 1), (.i .i64 1)], [(.i .u8 0), (.i .i64 0)]])], [(.sli [[(.i .u8 1), (.i .i64 1)], [(.i .u8 0), (.i .i64 0)]])], [(.sli [[(.i .u8 1), (.i .i64 1)]])], [(.sli [[(.i .u8 1), (.i .i64 0)]])], [(.sli [[(.i .u8 1), (.i .i64 2)]])]]), (.sli [[(.i .i64 2)], [(.i .i64 3)], [(.i .i64 4)], [(.i .i64 4)], [(.i .i64 4)], [(.i .i64 5)], [(.i .i64 6)], [(.i .i64 5)]])], [(.i .i64 1), (.i .i64 0), (.i .i64 3), (.i .i64 1), (.sli [[(.i .u8 3), (.i .i64 0)], [(.i .u8 1), (.i .i64 0)], [(.i .u8 1), (.i .i64 2)]]), (.sli [[(.sli [[(.i .u8 1), (.i .i64 0)]])], [(.sli [[(.i .u8 2), (.i .i64 0)]])], [(.sli [[(.i .u8 0), (.i .i64 0)], [(.i .u8 3), (.i .i64 0)]])], [(.sli [[(.i .u8 0), (.i .i64 0)], [(.i .u8 1), (.i .i64 0)]])], [(.sli [[(.i .u8 0), (.i .i64 0)], [(.i .u8 1), (.i .i64 2)]])], [(.sli [[(.i .u8 0), (.i .i64 0)]])], [(.sli [[(.i .u8 0), (.i .i64 0)]])], [(.sli [[(.i .u8 0), (.i .i64 0)]])]]), (.sli [[(.i .i64 5)], [(.i .i64 7)], [(.i .i64 8)], [(.i .i64 8)], [(.i .i64 8)], [(.i .i64 0)], [(.i .i64 0)], [(.i .i64 0)]])]]), (.sli [[(.sli [[(.i .u8 1), (.i .i64 1)], [(.i .u8 3), (.i .i64 0)]]), (.sli [])]]), (.i .i64 8), (.i .i64 17)]), (.i .i64 0)])
noncomputable def v27V : IV := (.tup [(.sli [[(.sli [])], [(.sli [[(.i .i64 3), (.i .i64 0)]])], [(.sli [[(.i .i64 3), (.i .i64 1)]])]]), (.i .i64 0)])
noncomputable def v28V : IV := (.tup [(.agg [(.sli [[(.i .i64 0), (.i .i64 (-1)), (.i .i64 (-1)), (.i .i64 0), (.sli [[(.i .u8 3), (.i .i64 0)], [(.i .u8 0), (.i .i64 0)]]), (.sli [[(.sli [[(.i .u8 1), (.i .i64 0)]])], [(.sli [[(.i .u8 0), (.i .i64 0)]])], [(.sli [[(.i .u8 1), (.i .i64 1)]])], [(.sli [[(.i .u8 0), (.i .i64 0)]])]]), (.sli [[(.i .i64 1)], [(.i .i64 0)], [(.i .i64 1)], [(.i .i64 1)]])], [(.i .i64 1), (.i .i64 0), (.i .i64 3), (.i .i64 0), (.sli [[(.i .u8 3), (.i .i64 0)], [(.i .u8 0), (.i .i64 0)], [(.i .u8 1), (.i .i64 1)]]), (.sli [[(.sli [[(.i .u8 1), (.i .i64 0)]])], [(.sli [[(.i .u8 0), (.i .i64 0)]])], [(.sli [[(.i .u8 0), (.i .i64 0)], [(.i .u8 0), (.i .i64 0)]])], [(.sli [[(.i .u8 0), (.i .i64 0)], [(.i .u8 0), (.i .i64 0)]])], [(.sli [[(.i .u8 0), (.i .i64 0)], [(.i .u8 0), (.i .i64 0)]])], [(.sli [[(.i .u8 0), (.i .i64 0)]])], [(.sli [[(.i .u8 0), (.i .i64 0)]])], [(.sli [[(.i .u8 0), (.i .i64 0)]])]]), (.sli [[(.i .i64 2)], [(.i .i64 0)], [(.i .i64 0)], [(.i .i64 0)], [(.i .i64 0)], [(.i .i64 0)], [(.i .i64 0)], [(.i .i64 0)]])]]), (.sli []), (.i .i64 2), (.i .i64 4)]), (.i .i64 0)])
noncomputable def v29V : IV := (.tup [(.sli [[(.sli [])], [(.sli [[(.i .i64 3), (.i .i64 0)]])]]), (.i .i64 0)])
noncomputable def v30V : IV := (.tup [(.sli [[(.sli [[(.sli [])]])], [(.sli [[(.sli [])]])], [(.sli [[(.sli [[(.i .i64 1), (.i .i64 0), (.b true)]])], [(.sli [[(.i .i64 1), (.i .i64 0), (.b false)]])]])], [(.sli [[(.sli [[(.i .i64 1), (.i .i64 0), (.b true)]])], [(.sli [[(.i .i64 1), (.i .i64 0), (.b false)]])]])], [(.sli [[(.sli [[(.i .i64 1), (.i .i64 0), (.b true)]])], [(.sli [[(.i .i64 1), (.i .i64 0), (.b false)]])]])], [(.sli [[(.sli [[(.i .i64 1), (.i .i64 0), (.b true)]])]])], [(.sli [[(.sli [[(.i .i64 1), (.i .i64 0), (.b true)]])]])], [(.sli [[(.sli [[(.i .i64 1), (.i .i64 0), (.b true)]])]])]]), (.i .i64 0)])
noncomputable def v31V : IV := (.agg [(.i .u8 1), (.sli []), (.i .i64 (-1)), (.i .i64 1), (.i .i64 0), (.i .i64 0), (.i .i64 0)])
noncomputable def v32V : IV := (.agg [(.i .u8 3), (.sli []), (.i .i64 0), (.i .i64 0), (.i .i64 0), (.i .i64 0), (.i .i64 0)])
noncomputable def v33V : IV := (.agg [(.i .u8 1), (.sli []), (.i .i64 1), (.i .i64 0), (.i .i64 0), (.i .i64 0), (.i .i64 0)])
noncomputable def v34V : IV := (.agg [(.i .u8 1), (.sli [[(.i .i64 3), (.i .i64 0)]]), (.i .i64 4), (.i .i64 1), (.i .i64 0), (.i .i64 0), (.i .i64 0)])
noncomputable def v35V : IV := (.agg [(.i .u8 1), (.sli [[(.i .i64 3), (.i .i64 0)]]), (.i .i64 1), (.i .i64 0), (.i .i64 0), (.i .i64 0), (.i .i64 0)])
noncomputable def v36V : IV := (.agg [(.i .u8 1), (.sli [[(.i .i64 3), (.i .i64 0)]]), (.i .i64 (-1)), (.i .i64 1), (.i .i64 0), (.i .i64 0), (.i .i64 0)])
noncomputable def v37V : IV := (.agg [(.i .u8 1), (.sli [[(.i .i64 3), (.i .i64 0)]]), (.i .i64 2), (.i .i64 0), (.i .i64 0), (.i .i64 0), (.i .i64 0)])
noncomputable def v38V : IV := (.agg [(.i .u8 1), (.sli [[(.i .i64 3), (.i .i64 0)]]), (.i .i64 2), (.i .i64 1), (.i .i64 0), (.i .i64 0), (.i .i64 0)])
noncomputable def v39V : IV := (.agg [(.i .u8 1), (.sli [[(.i .i64 3), (.i .i64 0)]]), (.i .i64 3), (.i .i64 0), (.i .i64 0), (.i .i64 0), (.i .i64 0)])
noncomputable def v40V : IV := (.agg [(.i .u8 1), (.sli [[(.i .i64 3), (.i .i64 0)]]), (.i .i64 3), (.i .i64 1), (.i .i64 0), (.i .i64 0), (.i .i64 0)])
noncomputable def v41V : IV := (.agg [(.i .u8 1), (.sli [[(.i .i64 3), (.i .i64 0)]]), (.i .i64 4), (.i .i64 0), (.i .i64 0), (.i .i64 0), (.i .i64 0)])
noncomputable def v42V : IV := (.agg [(.i .u8 1), (.sli [[(.i .i64 3), (.i .i64 0)]]), (.i .i64 5), (.i .i64 0), (.i .i64 0), (.i .i64 0), (.i .i64 0)])
noncomputable def v43V : IV := (.agg [(.i .u8 1), (.sli [[(.i .i64 3), (.i .i64 0)]]), (.i .i64 6), (.i .i64 0), (.i .i64 0), (.i .i64 0), (.i .i64 0)])
noncomputable def v44V : IV := (.agg [(.i .u8 1), (.sli [[(.i .i64 3), (.i .i64 0)]]), (.i .i64 7), (.i .i64 0), (.i .i64 0), (.i .i64 0), (.i .i64 0)])
end Go.Proofs.YtgboonfbfapaaaaGreat
