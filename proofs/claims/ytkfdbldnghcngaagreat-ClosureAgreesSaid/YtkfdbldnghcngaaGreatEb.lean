/- Contracts: equality of pictures and outcomes. -/
import Derived.Test.YtkfdbldnghcngaaGreatEa
set_option linter.unusedSimpArgs false
set_option linter.unusedVariables false
namespace Go.Proofs.YtkfdbldnghcngaaGreat
open Go.Fg

def picC (v : List Val) (c : List (List Val)) : List IV := [sl Val.c v, sl cellC c]
theorem loop41 (v1 v2 : List Val) (xs ys : List (List Val)) (hl : xs.length = ys.length) (hx : xs.length < 1000000000) (hs : ∀ x ∈ xs, x.length < 1000000000) (h : Hp) (p q : Pos) (hp : h.get p = some (.cells 2 (picC v1 xs))) (hq : h.get q = some (.cells 2 (picC v2 ys))) : ∀ n i, xs.length - i = n → i ≤ xs.length →
    jj W9 41 2 [.p p 0, .p q 0, int i] h = some (.b (decide (xs.drop i = ys.drop i)), h) := by
  have a1 : evLd1 h [.p p 1] = some (sl cellC xs) := ld1_of hp
  have b1 : evLd1 h [.p q 1] = some (sl cellC ys) := ld1_of hq
  intro n
  induction n with
  | zero =>
    intro i hi hle
    have : ¬ (i : Int) < xs.length := by omega
    rw [r41_2]
    simp only [int, evFa_p, Nat.zero_add, a1, sl_len, evBin_lss, Option.bind_some, this, decide_false, condR_eq, Bool.false_eq_true, if_false]
    rw [r41_1, List.drop_eq_nil_of_le (by omega), List.drop_eq_nil_of_le (by omega)]
    rfl
  | succ n ih =>
    intro i hi hle
    have hlt : (i : Int) < xs.length := by omega
    obtain ⟨x, hx1, hx2⟩ := ex_at (l := xs) (i := i) (by omega)
    obtain ⟨y, hy1, hy2⟩ := ex_at (l := ys) (i := i) (by omega)
    have e1 := sl_ia (f := cellC) (z := 1) (k := .i64) hx1 rfl
    have e2 := sl_ia (f := cellC) (z := 1) (k := .i64) hy1 rfl
    have ld : ∀ (h : Hp) (x : List Val), evLd1 h [.pi (cellC x)] = some (sl Val.c x) := fun _ _ => rfl
    have g := (g96 x y (hs x (List.mem_of_getElem? hx1))).at rfl
    rw [r41_2]
    simp only [int, evFa_p, Nat.zero_add, a1, sl_len, evBin_lss, Option.bind_some, hlt, decide_true, condR_eq, if_true]
    rw [r41_4]
    simp only [evFa_p, Nat.zero_add, a1, b1, e1, e2, ld, Option.bind_some, g, evNot_eq, condR_eq, hx2, hy2]
    by_cases c : x = y
    · simp only [c, decide_true, Bool.not_true, Bool.false_eq_true, if_false]
      rw [r41_3]
      simp only [evBin_add, Option.bind_some, wrap1 (i := i) (by omega)]
      rw [show IV.i .i64 ((i + 1 : Nat) : Int) = int ((i + 1 : Nat) : Int) from rfl, ih (i + 1) (by omega) (by omega)]
      simp
    · simp [c]
theorem g41 (v1 v2 : List Val) (xs ys : List (List Val)) (hv : v1.length < 1000000000) (hx : xs.length < 1000000000) (hs : ∀ x ∈ xs, x.length < 1000000000) : Gives 41 [.agg (picC v1 xs), .agg (picC v2 ys)] (.b (decide (v1 = v2) && decide (xs = ys))) := gives_of ok41 rfl rfl (by
  have g := (g96 v1 v2 hv).at rfl
  have hp : ((Hp.empty.new (.cells 2 (picC v1 xs))).new (.cells 2 (picC v2 ys))).get .h = some (.cells 2 (picC v1 xs)) := by simp
  have hq : ((Hp.empty.new (.cells 2 (picC v1 xs))).new (.cells 2 (picC v2 ys))).get (.o .h) = some (.cells 2 (picC v2 ys)) := by simp
  rw [r41]
  simp only [bl_eq, cells_agg, lenN_eq, Hp.next_new, empty_next, Pos.nxt_h]
  rw [show (picC v1 xs).length = 2 from rfl, show (picC v2 ys).length = 2 from rfl]
  generalize (Hp.empty.new (.cells 2 (picC v1 xs))).new (.cells 2 (picC v2 ys)) = H at hp hq
  have a0 : H.read1 .h 0 = some (sl Val.c v1) := ld1_of hp
  have a1 : H.read1 .h 1 = some (sl cellC xs) := ld1_of hp
  have b0 : H.read1 (.o .h) 0 = some (sl Val.c v2) := ld1_of hq
  have b1 : H.read1 (.o .h) 1 = some (sl cellC ys) := ld1_of hq
  simp only [evFa_p, evLd1_p, Nat.zero_add, Option.bind_some, a0, a1, b0, b1, g, evNot_eq, wantV_eq, sl_len, evBin_neq, evPick_eq, condR_eq]
  by_cases c : v1 = v2
  · by_cases d : xs.length = ys.length
    · have d' : (xs.length : Int) = ys.length := by omega
      subst c
      simp [d', a0, a1, b0, b1]
      rw [r41_5]
      have := loop41 v1 v1 xs ys d hx hs H .h (.o .h) hp hq xs.length 0 (by omega) (by omega)
      refine ⟨H, ?_⟩
      simp only [List.drop_zero] at this
      simpa [int] using this
    · have d' : ¬ (xs.length : Int) = ys.length := by omega
      have : ¬ xs = ys := fun e => d (by rw [e])
      exact ⟨H, by simp [c, d', this, a0, a1, b0, b1]⟩
  · exact ⟨H, by simp [c]⟩)
def agreeM (a b : Outcome) : Bool := decide (a.vals = b.vals) && decide (a.cells = b.cells) && decide (a.waits = b.waits) && decide (a.fires = b.fires) && decide (a.contexts = b.contexts) && decide (a.structs = b.structs)
def thin (o : Outcome) : Prop := o.waits.length ≤ 12 ∧ o.vals.length ≤ 20 ∧ o.cells.length ≤ 20 ∧ (∀ c ∈ o.cells, c.length ≤ 30) ∧ ∀ w ∈ o.waits, w.path.length ≤ 8
theorem g30 (a b : Outcome) (ta : thin a) : Gives 30 [.agg a.c, .agg b.c] (.b (agreeM a b)) := gives_of ok30 rfl rfl (by
  obtain ⟨t1, t2, t3, t4, t5⟩ := ta
  have g1 := (g80 a.vals b.vals (by omega)).at rfl
  have g2 := (g81 a.cells b.cells (by omega) (fun x hx => by have := t4 x hx; omega)).at rfl
  have g3 := (g82 a.waits b.waits (by omega) (fun x hx => by have := t5 x hx; omega)).at rfl
  have hp : ((Hp.empty.new (.cells 7 a.c)).new (.cells 7 b.c)).get .h = some (.cells 7 a.c) := by simp
  have hq : ((Hp.empty.new (.cells 7 a.c)).new (.cells 7 b.c)).get (.o .h) = some (.cells 7 b.c) := by simp
  rw [r30]
  simp only [bl_eq, cells_agg, lenN_eq, Hp.next_new, empty_next, Pos.nxt_h, Outcome.c_len]
  generalize (Hp.empty.new (.cells 7 a.c)).new (.cells 7 b.c) = H at hp hq
  refine ⟨H, ?_⟩
  have a0 : H.read1 .h 0 = some (sl Val.c a.vals) := ld1_of hp
  have a1 : H.read1 .h 1 = some (sl cellC a.cells) := ld1_of hp
  have a2 : H.read1 .h 2 = some (.i .i64 a.fires) := ld1_of hp
  have a3 : H.read1 .h 3 = some (.i .i64 a.contexts) := ld1_of hp
  have a4 : H.read1 .h 4 = some (.i .i64 a.structs) := ld1_of hp
  have a6 : H.read1 .h 6 = some (sl Wait.c a.waits) := ld1_of hp
  have b0 : H.read1 (.o .h) 0 = some (sl Val.c b.vals) := ld1_of hq
  have b1 : H.read1 (.o .h) 1 = some (sl cellC b.cells) := ld1_of hq
  have b2 : H.read1 (.o .h) 2 = some (.i .i64 b.fires) := ld1_of hq
  have b3 : H.read1 (.o .h) 3 = some (.i .i64 b.contexts) := ld1_of hq
  have b4 : H.read1 (.o .h) 4 = some (.i .i64 b.structs) := ld1_of hq
  have b6 : H.read1 (.o .h) 6 = some (sl Wait.c b.waits) := ld1_of hq
  simp only [evFa_p, evLd1_p, Nat.zero_add, Nat.add_zero, Option.bind_some, a0, a1, a2, a3, a4, a6, b0, b1, b2, b3, b4, b6, g1, g3, wantV_eq]
  unfold agreeM
  generalize decide (a.vals = b.vals) = c1 at g1 ⊢
  generalize decide (a.cells = b.cells) = c2 at g2 ⊢
  generalize decide (a.waits = b.waits) = c3 at g3 ⊢
  by_cases f1 : a.fires = b.fires <;> by_cases f2 : a.contexts = b.contexts <;> by_cases f3 : a.structs = b.structs <;> cases c1 <;> cases c2 <;> cases c3 <;> simp [f1, f2, f3, g2, g3, a1, b1, a2, a3, a4, a6, b2, b3, b4, b6])
end Go.Proofs.YtkfdbldnghcngaaGreat
