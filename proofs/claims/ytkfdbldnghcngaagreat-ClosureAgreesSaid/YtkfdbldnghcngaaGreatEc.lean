/- Contracts: the document's Agree. -/
import Derived.Test.YtkfdbldnghcngaaGreatEb
set_option linter.unusedSimpArgs false
set_option linter.unusedVariables false
namespace Go.Proofs.YtkfdbldnghcngaaGreat
open Go.Fg

theorem wait_eq (x y : Wait) : x = y ↔ x.node = y.node ∧ x.path = y.path := by
  cases x; cases y; simp [and_comm]
theorem loop29 (a b : Outcome) (hl : a.waits.length = b.waits.length) (hx : a.waits.length < 1000000000) (hs : ∀ x ∈ a.waits, x.path.length < 1000000000) (h : Hp) (p q : Pos) (hp : h.get p = some (.cells 7 a.c)) (hq : h.get q = some (.cells 7 b.c)) : ∀ n i, a.waits.length - i = n → i ≤ a.waits.length →
    jj W9 29 2 [.p p 0, .p q 0, int i] h = some (.b (decide (a.waits.drop i = b.waits.drop i)), h) := by
  have a6 : h.read1 p 6 = some (sl Wait.c a.waits) := ld1_of hp
  have b6 : h.read1 q 6 = some (sl Wait.c b.waits) := ld1_of hq
  intro n
  induction n with
  | zero =>
    intro i hi hle
    have : ¬ (i : Int) < a.waits.length := by omega
    rw [r29_2]
    simp only [int, evFa_p, evLd1_p, Nat.zero_add, a6, sl_len, evBin_lss, Option.bind_some, this, decide_false, condR_eq, Bool.false_eq_true, if_false]
    rw [r29_1, List.drop_eq_nil_of_le (by omega), List.drop_eq_nil_of_le (by omega)]
    rfl
  | succ n ih =>
    intro i hi hle
    have hlt : (i : Int) < a.waits.length := by omega
    obtain ⟨x, hx1, hx2⟩ := ex_at (l := a.waits) (i := i) (by omega)
    obtain ⟨y, hy1, hy2⟩ := ex_at (l := b.waits) (i := i) (by omega)
    have e1 := sl_ia (f := Wait.c) (z := 2) (k := .i64) hx1 rfl
    have e2 := sl_ia (f := Wait.c) (z := 2) (k := .i64) hy1 rfl
    have l0 : ∀ (x : Wait), (x.c.drop 0)[0]? = some (sl Hop.c x.path) := fun _ => rfl
    have l1 : ∀ (x : Wait), (x.c.drop 1)[0]? = some (.i .i64 x.node) := fun _ => rfl
    have g := (g40 x.path y.path (hs x (List.mem_of_getElem? hx1))).at rfl
    rw [r29_2]
    simp only [int, evFa_p, evLd1_p, Nat.zero_add, a6, sl_len, evBin_lss, Option.bind_some, hlt, decide_true, condR_eq, if_true]
    rw [r29_4]
    simp only [evFa_p, evLd1_p, Nat.zero_add, a6, b6, e1, e2, evFa_pi, evLd1_pi, l0, l1, Option.bind_some, evBin_neq, wantV_eq]
    have l1' : ∀ (x : Wait) (hh : 1 < x.c.length), x.c[1]'hh = .i .i64 x.node := fun _ _ => rfl
    have hw := wait_eq x y
    by_cases c : x.node = y.node
    · by_cases d : x.path = y.path
      · have hxy : x = y := hw.2 ⟨c, d⟩
        subst hxy
        have l0' : x.c[0]? = some (sl Hop.c x.path) := rfl
        simp [a6, b6, e1, e2, l0, l0', l1, l1', g]
        rw [r29_3]
        simp only [evBin_add, Option.bind_some, wrap1 (i := i) (by omega)]
        rw [show IV.i .i64 ((i + 1 : Nat) : Int) = int ((i + 1 : Nat) : Int) from rfl, ih (i + 1) (by omega) (by omega), hx2, hy2]
        simp
      · have hxy : ¬ x = y := fun e => d (by rw [e])
        have l0' : ∀ x : Wait, x.c[0]? = some (sl Hop.c x.path) := fun _ => rfl
        simp [a6, b6, e1, e2, l0, l0', l1, l1', g, c, d, hx2, hy2, hxy]
    · have hxy : ¬ x = y := fun e => c (by rw [e])
      simp [c, hx2, hy2, hxy]
end Go.Proofs.YtkfdbldnghcngaaGreat
/- Contracts: the document's Agree, whole. -/
namespace Go.Proofs.YtkfdbldnghcngaaGreat
open Go.Fg
theorem read_pic {H : Hp} {p : Pos} {o : Outcome} (hp : H.get p = some (.cells 7 o.c)) : H.read p 0 2 = some (picC o.vals o.cells) := by
  rw [read_eq (m := 7) (l := o.c) (by rw [hp]; rfl), if_pos (by decide), if_neg (by decide)]
  rfl
theorem j29 (a b : Outcome) (ta : thin a) (H : Hp) (hp : H.get .h = some (.cells 7 a.c)) (hq : H.get (.o .h) = some (.cells 7 b.c)) (d : a.waits.length = b.waits.length) : jj W9 29 5 [.p .h 0, .p (.o .h) 0] H = some (.b (decide (a.waits = b.waits)), H) := by
  obtain ⟨t1, t2, t3, t4, t5⟩ := ta
  have := loop29 a b d (by omega) (fun x hx => by have := t5 x hx; omega) H .h (.o .h) hp hq a.waits.length 0 (by omega) (by omega)
  rw [List.drop_zero, List.drop_zero] at this
  rw [r29_5]
  exact this
end Go.Proofs.YtkfdbldnghcngaaGreat
