/- Contracts: what the statement looks at. -/
import Derived.Test.YtkfdbldnghcngaaGreatEb
set_option linter.unusedSimpArgs false
set_option linter.unusedVariables false
namespace Go.Proofs.YtkfdbldnghcngaaGreat
open Go.Fg

def thinB (o : Outcome) : Bool := decide (o.waits.length ≤ 12) && decide (o.vals.length ≤ 20) && decide (o.cells.length ≤ 20) && o.cells.all (fun c => decide (c.length ≤ 30)) && o.waits.all (fun w => decide (w.path.length ≤ 8))
theorem thin_iff (o : Outcome) : thinB o = true ↔ thin o := by
  simp [thinB, thin, and_assoc]
theorem loop31w (o : Outcome) (hx : o.waits.length < 1000000000) (h : Hp) (p : Pos) (hp : h.get p = some (.cells 7 o.c)) : ∀ n i, o.waits.length - i = n → i ≤ o.waits.length →
    jj W9 31 2 [.p p 0, int i] h = some (.b ((o.waits.drop i).all (fun w => decide (w.path.length ≤ 8))), h) := by
  have a6 : h.read1 p 6 = some (sl Wait.c o.waits) := ld1_of hp
  intro n
  induction n with
  | zero =>
    intro i hi hle
    have : ¬ (i : Int) < o.waits.length := by omega
    rw [r31_2]
    simp only [int, evFa_p, evLd1_p, Nat.zero_add, a6, sl_len, evBin_lss, Option.bind_some, this, decide_false, condR_eq, Bool.false_eq_true, if_false]
    rw [r31_1, List.drop_eq_nil_of_le (by omega)]
    rfl
  | succ n ih =>
    intro i hi hle
    have hlt : (i : Int) < o.waits.length := by omega
    obtain ⟨x, hx1, hx2⟩ := ex_at (l := o.waits) (i := i) (by omega)
    have e1 := sl_ia (f := Wait.c) (z := 2) (k := .i64) hx1 rfl
    have l0 : ∀ (x : Wait), (x.c.drop 0)[0]? = some (sl Hop.c x.path) := fun _ => rfl
    rw [r31_2]
    simp only [int, evFa_p, evLd1_p, Nat.zero_add, a6, sl_len, evBin_lss, Option.bind_some, hlt, decide_true, condR_eq, if_true]
    rw [r31_4]
    simp only [evFa_p, evLd1_p, Nat.zero_add, a6, e1, evFa_pi, evLd1_pi, l0, sl_len, Option.bind_some, evBin_gtr, condR_eq, hx2, List.all_cons]
    by_cases c : x.path.length ≤ 8
    · have c' : ¬ (8 : Int) < x.path.length := by omega
      simp only [c, c', decide_true, decide_false, Bool.false_eq_true, if_false, Bool.true_and]
      rw [r31_3]
      simp only [evBin_add, Option.bind_some, wrap1 (i := i) (by omega)]
      exact ih (i + 1) (by omega) (by omega)
    · have c' : (8 : Int) < x.path.length := by omega
      simp only [c, c', decide_true, decide_false, if_true, Bool.false_and]
theorem loop31c (o : Outcome) (hw : o.waits.length < 1000000000) (hx : o.cells.length < 1000000000) (h : Hp) (p : Pos) (hp : h.get p = some (.cells 7 o.c)) : ∀ n i, o.cells.length - i = n → i ≤ o.cells.length →
    jj W9 31 6 [int i, .p p 0] h = some (.b ((o.cells.drop i).all (fun c => decide (c.length ≤ 30)) && o.waits.all (fun w => decide (w.path.length ≤ 8))), h) := by
  have a1 : h.read1 p 1 = some (sl cellC o.cells) := ld1_of hp
  intro n
  induction n with
  | zero =>
    intro i hi hle
    have : ¬ (i : Int) < o.cells.length := by omega
    rw [r31_6]
    simp only [int, evFa_p, evLd1_p, Nat.zero_add, Nat.add_zero, a1, sl_len, evBin_lss, Option.bind_some, this, decide_false, condR_eq, Bool.false_eq_true, if_false]
    rw [r31_5, List.drop_eq_nil_of_le (by omega)]
    have := loop31w o hw h p hp o.waits.length 0 (by omega) (by omega)
    rw [List.drop_zero] at this
    simp only [List.all_nil, Bool.true_and]
    exact this
  | succ n ih =>
    intro i hi hle
    have hlt : (i : Int) < o.cells.length := by omega
    obtain ⟨x, hx1, hx2⟩ := ex_at (l := o.cells) (i := i) (by omega)
    have e1 := sl_ia (f := cellC) (z := 1) (k := .i64) hx1 rfl
    have l0 : ∀ (x : List Val), (cellC x)[0]? = some (sl Val.c x) := fun _ => rfl
    rw [r31_6]
    simp only [int, evFa_p, evLd1_p, Nat.zero_add, Nat.add_zero, a1, sl_len, evBin_lss, Option.bind_some, hlt, decide_true, condR_eq, if_true]
    rw [r31_8]
    simp only [evFa_p, evLd1_p, Nat.zero_add, Nat.add_zero, a1, e1, evFa_pi, evLd1_pi, l0, sl_len, Option.bind_some, evBin_gtr, condR_eq, hx2, List.all_cons]
    by_cases c : x.length ≤ 30
    · have c' : ¬ (30 : Int) < x.length := by omega
      simp only [c, c', decide_true, decide_false, Bool.false_eq_true, if_false, Bool.true_and]
      rw [r31_7]
      simp only [evBin_add, Option.bind_some, wrap1 (i := i) (by omega)]
      exact ih (i + 1) (by omega) (by omega)
    · have c' : (30 : Int) < x.length := by omega
      simp only [c, c', decide_true, decide_false, if_true, Bool.false_and]
theorem g31 (o : Outcome) : Gives 31 [.agg o.c] (.b (thinB o)) := gives_of ok31 rfl rfl (by
  have hp : (Hp.empty.new (.cells 7 o.c)).get .h = some (.cells 7 o.c) := by simp
  rw [r31]
  simp only [bl_eq, cells_agg, lenN_eq, Hp.next_new, empty_next, Pos.nxt_h, Outcome.c_len]
  generalize Hp.empty.new (.cells 7 o.c) = H at hp
  refine ⟨H, ?_⟩
  have a0 : H.read1 .h 0 = some (sl Val.c o.vals) := ld1_of hp
  have a1 : H.read1 .h 1 = some (sl cellC o.cells) := ld1_of hp
  have a6 : H.read1 .h 6 = some (sl Wait.c o.waits) := ld1_of hp
  simp only [evFa_p, evLd1_p, Nat.zero_add, Nat.add_zero, Option.bind_some, a0, a1, a6, sl_len, evBin_gtr, wantV_eq]
  unfold thinB
  by_cases c1 : o.waits.length ≤ 12
  case neg =>
    have d1 : (12 : Int) < o.waits.length := by omega
    simp [c1, d1]
  by_cases c2 : o.vals.length ≤ 20
  case neg =>
    have d1 : ¬ (12 : Int) < o.waits.length := by omega
    have d2 : (20 : Int) < o.vals.length := by omega
    simp [c1, c2, d1, d2, a0, a1]
  by_cases c3 : o.cells.length ≤ 20
  case neg =>
    have d1 : ¬ (12 : Int) < o.waits.length := by omega
    have d2 : ¬ (20 : Int) < o.vals.length := by omega
    have d3 : (20 : Int) < o.cells.length := by omega
    simp [c1, c2, c3, d1, d2, d3, a0, a1]
  have d1 : ¬ (12 : Int) < o.waits.length := by omega
  have d2 : ¬ (20 : Int) < o.vals.length := by omega
  have d3 : ¬ (20 : Int) < o.cells.length := by omega
  have j9 : jj W9 31 9 [.p .h 0] H = some (.b (o.cells.all (fun c => decide (c.length ≤ 30)) && o.waits.all (fun w => decide (w.path.length ≤ 8))), H) := by
    rw [r31_9]
    have := loop31c o (by omega) (by omega) H .h hp o.cells.length 0 (by omega) (by omega)
    rw [List.drop_zero] at this
    exact this
  simp [c1, c2, c3, d1, d2, d3, a0, a1, j9])
end Go.Proofs.YtkfdbldnghcngaaGreat
