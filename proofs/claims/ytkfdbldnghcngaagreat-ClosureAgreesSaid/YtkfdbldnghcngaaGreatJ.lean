/- What awake says. -/
import Derived.Test.YtkfdbldnghcngaaGreatRa
import Derived.Test.YtkfdbldnghcngaaGreatRb
import Derived.Test.YtkfdbldnghcngaaGreatRc
import Derived.Test.YtkfdbldnghcngaaGreatRd
import Derived.Test.YtkfdbldnghcngaaGreatRe
import Derived.Test.YtkfdbldnghcngaaGreatEd
import Derived.Test.YtkfdbldnghcngaaGreatEe
set_option linter.unusedSimpArgs false
set_option linter.unusedVariables false
namespace Go.Proofs.YtkfdbldnghcngaaGreat.Fast
open Go.Fg
noncomputable def pl9 : Pos → List IV → Option IV := fun k args =>
  cond (cond (Pos.eq k (pos 20)) (beqDeeps args [power, (.agg [(.sli [[(.sli [[(.i .i64 2)]])]]), (.sli [[(.b true)]])])]) false) (some (.tup [(.agg [(.sli [[(.i .u8 1), (.i .i64 4)]]), (.sli []), (.i .i64 25), (.i .i64 4), (.i .i64 1), (.i .i64 12), (.sli [])]), (.i .i64 0)])) <|
  cond (cond (Pos.eq k (pos 20)) (beqDeeps args [power, (.agg [(.sli [[(.sli [[(.i .i64 0)]])]]), (.sli [[(.b true)]])])]) false) (some (.tup [(.agg [(.sli [[(.i .u8 1), (.i .i64 1)]]), (.sli []), (.i .i64 9), (.i .i64 2), (.i .i64 1), (.i .i64 4), (.sli [])]), (.i .i64 0)])) <|
  cond (cond (Pos.eq k (pos 20)) (beqDeeps args [power, (.agg [(.sli [[(.sli [])]]), (.sli [[(.b false)]])])]) false) (some (.tup [(.agg [(.sli [[(.i .u8 0), (.i .i64 0)]]), (.sli []), (.i .i64 4), (.i .i64 2), (.i .i64 0), (.i .i64 2), (.sli [])]), (.i .i64 0)])) <|
  cond (cond (Pos.eq k (pos 25)) (beqDeeps args [power, (.agg [(.sli [[(.sli [[(.i .i64 2)]])]]), (.sli [[(.b true)]])]), (.sli [[(.i .i64 1)], [(.i .i64 3)], [(.i .i64 2)], [(.i .i64 5)], [(.i .i64 0)], [(.i .i64 7)]])]) false) (some (.tup [(.agg [(.sli [[(.i .u8 1), (.i .i64 4)]]), (.sli []), (.i .i64 25), (.i .i64 4), (.i .i64 1), (.i .i64 25), (.sli [])]), (.sli [[(.i .i64 0), (.i .i64 2)], [(.i .i64 0), (.i .i64 3)], [(.i .i64 0), (.i .i64 0)], [(.i .i64 1), (.i .i64 0)], [(.i .i64 0), (.i .i64 1)], [(.i .i64 1), (.i .i64 1)], [(.i .i64 1), (.i .i64 2)], [(.i .i64 1), (.i .i64 3)], [(.i .i64 1), (.i .i64 4)], [(.i .i64 1), (.i .i64 5)], [(.i .i64 1), (.i .i64 6)], [(.i .i64 1), (.i .i64 7)], [(.i .i64 2), (.i .i64 0)], [(.i .i64 2), (.i .i64 1)], [(.i .i64 2), (.i .i64 2)], [(.i .i64 2), (.i .i64 3)], [(.i .i64 2), (.i .i64 4)], [(.i .i64 2), (.i .i64 5)], [(.i .i64 2), (.i .i64 6)], [(.i .i64 2), (.i .i64 7)], [(.i .i64 3), (.i .i64 0)], [(.i .i64 3), (.i .i64 1)], [(.i .i64 3), (.i .i64 2)], [(.i .i64 3), (.i .i64 3)], [(.i .i64 3), (.i .i64 4)]]), (.i .i64 0)])) <|
  cond (cond (Pos.eq k (pos 36)) (beqDeeps args [power, (.agg [(.sli [[(.sli [[(.i .i64 2)]])]]), (.sli [[(.b true)]])])]) false) (some (.tup [(.sli [[(.sli [])], [(.sli [[(.i .i64 3), (.i .i64 0)]])], [(.sli [[(.i .i64 3), (.i .i64 1)]])], [(.sli [[(.i .i64 3), (.i .i64 2)]])]]), (.i .i64 0)])) <|
  none
theorem known {k : Nat} {ar : List IV} {r : IV} (hk : k < 1000000) (ht : Tells P9 k ar r) {p : Pos} {args : List IV} {o : Option IV} {n : Nat} {u : IV} (hp : p = pos n) (hn : n < 1000000)
    (h : cond (cond (Pos.eq p (pos k)) (beqDeeps args ar) false) (some r) o = some u) (ho : o = some u → Tells P9 n args u) : Tells P9 n args u := by
  cases c : cond (Pos.eq p (pos k)) (beqDeeps args ar) false with
  | false => rw [c] at h; exact ho h
  | true =>
    rw [c] at h
    obtain ⟨c1, c2⟩ := Go.Fg.cond_true c
    have e := Pos.eq_true c1
    rw [hp] at e
    have := pos_inj hn hk e
    subst this
    have := beqDeeps_eq _ c2
    subst this
    cases h
    exact ht
theorem pl9_sim : PSim P9 pl9 := by
  intro n args u hn h
  unfold pl9 at h
  refine known (k := 20) (by decide) (go_tells (by decide) run2) rfl hn h (fun h => ?_)
  refine known (k := 20) (by decide) (go_tells (by decide) run0) rfl hn h (fun h => ?_)
  refine known (k := 20) (by decide) (go_tells (by decide) runo) rfl hn h (fun h => ?_)
  refine known (k := 25) (by decide) (go_tells (by decide) ord2) rfl hn h (fun h => ?_)
  refine known (k := 36) (by decide) (go_tells (by decide) paths2) rfl hn h (fun h => ?_)
  cases h
/-- One call by closures, what it calls told by contents. -/
noncomputable def stepF (cf : CallF) : CallF := fun f args h => enterF (T9 f) 100000000 cf args h
theorem stepF_sim {cf : CallF} (h : CSim P9 cf) (hu : CUp cf) : CSim P9 (stepF cf) := by
  intro n args h1 v h2 hn e
  unfold stepF at e
  cases ht : T9 (pos n) with
  | none => rw [ht] at e; cases e
  | some f =>
    obtain ⟨m, fn, k1, k2, k3, rfl⟩ := fits9 _ f ht
    obtain rfl := pos_inj hn k1 k2
    rw [ht, enterF_eq] at e
    exact callFn_sound h hu (draw_sound (by kernel_rfl) _ h hu) k3 e
noncomputable def goP (k : Nat) (args : List IV) : Option IV := match stepF (pureC pl9 (callFast T9 100000000 100000)) (pos k) args Hp.empty with
  | some (r, h) => (match frz h r with | some (u, _) => some u | none => none)
  | none => none
theorem goP_tells {k : Nat} {args : List IV} {u : IV} (hk : k < 1000000) (h : goP k args = some u) : Tells P9 k args u := by
  unfold goP at h
  split at h
  · rename_i r h2 e
    split at h
    · rename_i u' h3 e3
      cases h
      exact tells_of (stepF_sim (pureC_sound pl9_sim (callFast_sound (draw_sound (by kernel_rfl)) fits9 100000000 100000)) pureC_up) hk e e3
    · cases h
  · cases h
theorem awake_run : goP 17 [] = some (.b true) := by kernel_rfl
/-- awake RETURNS TRUE. -/
theorem awake_tells : Tells P9 17 [] (.b true) := goP_tells (by decide) awake_run
end Go.Proofs.YtkfdbldnghcngaaGreat.Fast
/- From the text of a law to what it tells: awake's answer known. -/
namespace Go.Proofs.YtkfdbldnghcngaaGreat
open Go.Fg

noncomputable def plA : Pos → List IV → Option IV := fun k args => cond (cond (Pos.eq k (pos 17)) (beqDeeps args []) false) (some (.b true)) none
theorem plA_sim : PSim P9 plA := by
  intro n args r hn e
  unfold plA at e
  exact Fast.known (k := 17) (by decide) Fast.awake_tells rfl hn e (fun e => by cases e)
/-- The machine of a law: calls by contents, awake's answer known. -/
noncomputable def cfL : CallF := pureC plA W9
theorem cfL_sim : CSim P9 cfL := pureC_sound plA_sim (W_sound (by kernel_rfl) tab_ok (psim_none _))
theorem cfL_known (h : Hp) : cfL (pos 17) [] h = some (.b true, h) := rfl
theorem cfL_of {k : Nat} {args : List IV} {r : IV} (g : Gives k args r) (hk : Pos.eq (pos k) (pos 17) = false) (ha : args.all imm = true) (hr : imm r = true) (h : Hp) : cfL (pos k) args h = some (r, h) := by
  show pureC plA W9 (pos k) args h = _
  unfold pureC
  rw [frzs_imm ha]
  have : plA (pos k) args = none := by unfold plA; rw [hk]; rfl
  simp only [this, g.at ha, frz_imm hr]
theorem tells_law {k : Nat} (hk : k < 1000000) (ok : okk k = true) {args : List IV} {r : IV} {h2 : Hp} (e : xx cfL k args Hp.empty = some (r, h2)) (hr : imm r = true) : Tells P9 k args r := by
  obtain ⟨fn, h1, h2', h3, h4, _⟩ := okN_inv ok
  have e' : runW cfL fn args Hp.empty = some (r, h2) := by rw [runW_eq h3, ← h2']; exact e
  obtain ⟨N, hN⟩ := runW_inv e'
  have e'' : callT (tab P9 Z9) N cfL (pos k) args Hp.empty = some (r, h2) := by unfold callT; rw [h1]; exact hN
  exact tells_of (callT_sound (by kernel_rfl) tab_ok cfL_sim pureC_up) hk e'' (frz_imm hr h2)
end Go.Proofs.YtkfdbldnghcngaaGreat
/- ClosureAgrees over a law's machine. -/
namespace Go.Proofs.YtkfdbldnghcngaaGreat
open Go.Fg

theorem agreeM_self (a : Outcome) : agreeM a a = true := by simp [agreeM]
theorem end7 (a b : Outcome) (ta : thin a) (g29 : Gives 29 [.agg a.c, .agg b.c] (.b (agreeM a b))) (H : Hp) (p q : Pos) (hp : H.get p = some (.cells 7 a.c)) (hq : H.get q = some (.cells 7 b.c)) :
    jj cfL 7 1 [.p q 0, .p p 0] H = some (.b true, H) := by
  have a7 : H.read p 0 7 = some a.c := by rw [read_eq (m := 7) (l := a.c) (by rw [hp]; rfl), if_pos (by decide), if_pos rfl]
  have b7 : H.read q 0 7 = some b.c := by rw [read_eq (m := 7) (l := b.c) (by rw [hq]; rfl), if_pos (by decide), if_pos rfl]
  have e30 := cfL_of (g30 a b ta) rfl rfl rfl
  have e30' := cfL_of (g30 a a ta) rfl rfl rfl
  have e29 := cfL_of g29 rfl rfl rfl
  have e17 := cfL_known
  rw [r7_1]
  simp [a7, b7, e30, e30', e29, e17, agreeM_self]
end Go.Proofs.YtkfdbldnghcngaaGreat
/- ClosureAgrees: the loop. -/
namespace Go.Proofs.YtkfdbldnghcngaaGreat
open Go.Fg

theorem loop7 (a b : Outcome) (ta : thin a) (tb : thin b) (g29 : Gives 29 [.agg a.c, .agg b.c] (.b (agreeM a b))) (H : Hp) (p q : Pos) (hp : H.get p = some (.cells 7 a.c)) (hq : H.get q = some (.cells 7 b.c)) : ∀ n i, a.waits.length - i = n →
    jj cfL 7 2 [int i, .p q 0, .p p 0] H = some (.b true, H) := by
  have a6 : H.read1 p 6 = some (sl Wait.c a.waits) := ld1_of hp
  have b6 : H.read1 q 6 = some (sl Wait.c b.waits) := ld1_of hq
  have la := ta.1
  have fin := end7 a b ta g29 H p q hp hq
  intro n
  induction n with
  | zero =>
    intro i hi
    have : ¬ (i : Int) < a.waits.length := by omega
    rw [r7_2]
    simp [int, a6, this, fin]
  | succ n ih =>
    intro i hi
    have hlt : (i : Int) < a.waits.length := by omega
    rw [r7_2]
    by_cases c : (i : Int) < b.waits.length
    case neg => simp [int, a6, b6, hlt, c, fin]
    case pos =>
    obtain ⟨x, hx1, hx2⟩ := ex_at (l := a.waits) (i := i) (by omega)
    obtain ⟨y, hy1, hy2⟩ := ex_at (l := b.waits) (i := i) (by omega)
    have e1 := sl_ia (f := Wait.c) (z := 2) (k := .i64) hx1 rfl
    have e2 := sl_ia (f := Wait.c) (z := 2) (k := .i64) hy1 rfl
    have px : x.path.length < 1000000000 := by have := ta.2.2.2.2 x (List.mem_of_getElem? hx1); omega
    have py : y.path.length < 1000000000 := by have := tb.2.2.2.2 y (List.mem_of_getElem? hy1); omega
    have ld : ∀ (h : Hp) (x : Wait), evLd 2 h [.pi x.c] = some (.agg x.c) := fun _ _ => rfl
    have l1 := cfL_of (g32 x y px) rfl rfl rfl
    have l2 := cfL_of (g33 x y px) rfl rfl rfl
    have l3 := cfL_of (g32 y x py) rfl rfl rfl
    have l4 := cfL_of (g33 y x py) rfl rfl rfl
    have l5 := cfL_of (g32 x x px) rfl rfl rfl
    have z : cmpW x x = 0 := (cmpW_zero x x).2 rfl
    simp [int, a6, b6, hlt, c]
    rw [r7_4]
    have ldx : ∀ h, evLd 2 h [.pi x.c] = some (.agg x.c) := fun h => ld h x
    have ldy : ∀ h, evLd 2 h [.pi y.c] = some (.agg y.c) := fun h => ld h y
    have z' : decide (cmpW x x < 0) = false := by rw [z]; rfl
    rw [z'] at l5
    simp -implicitDefEqProofs only [↓evFa_b0, ↓evLd1_b, ↓bd a6, ↓bd b6, ↓bd e1, ↓bd e2, ↓bd (ldx H), ↓bd (ldy H), ↓bd (l1 H), ↓bd (l2 H), ↓bd (l3 H), ↓bd (l4 H), ↓bd (l5 H), ↓sl1 a6, ↓sl1 b6, ↓slL (ldx H), ↓slL (ldy H), ↓evEqb_self, ↓want_ffb, ↓bind_some_eta, ↓bassoc, ↓cond_nb, ↓some_b, ↓evPick_f, ↓condR_f, ↓consIf_wff, sameLook_ld1, sameLook_ld, evLd1_p, a6, b6, ldx, ldy, sameO_self, Bool.cond_true, seenAgain_cons, seenAgain_nil, seenBefore_cons, seenBefore_nil, cond_same, Bool.cond_self]
    rw [r7_3]
    simp only [evBin_add, Option.bind_some, wrap1 (i := i) (by omega)]
    exact ih (i + 1) (by omega)
end Go.Proofs.YtkfdbldnghcngaaGreat
