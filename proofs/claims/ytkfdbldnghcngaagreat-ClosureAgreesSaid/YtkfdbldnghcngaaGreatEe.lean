/- Looks in their order, ahead of what comes behind them. -/
import Derived.Test.YtkfdbldnghcngaaGreatFd
import Derived.Test.YtkfdbldnghcngaaGreatEa
import Derived.Test.YtkfdbldnghcngaaGreatEc
set_option linter.unusedSimpArgs false
set_option linter.unusedVariables false
namespace Go.Proofs.YtkfdbldnghcngaaGreat
open Go.Fg
variable {α β : Type}
theorem bd {x : Option α} {a : α} (h : x = some a) (F : α → Option β) : x.bind F = F a := by rw [h]; rfl
theorem some_b {α : Type} (a : α) (F : α → Option β) : (some a).bind F = F a := Eq.trans rfl rfl
theorem bl_b (v : IV) (h : Hp) (k : IV → Hp → R) : bl v h k = k v h := Eq.trans rfl rfl
theorem evFa_b0 (n : Nat) (b : Pos) (F : IV → Option β) : (evFa n [.p b 0]).bind F = F (.p b n) := by rw [evFa_p, Nat.zero_add]; rfl
theorem evFa_pib (n : Nat) (l : List IV) (F : IV → Option β) : (evFa n [.pi l]).bind F = F (.pi (l.drop n)) := Eq.trans rfl rfl
theorem evLd1_b (h : Hp) (b : Pos) (o : Nat) (F : IV → Option β) : (evLd1 h [.p b o]).bind F = (h.read1 b o).bind F := Eq.trans rfl rfl
theorem evLd1_pib (h : Hp) (l : List IV) (F : IV → Option β) : (evLd1 h [.pi l]).bind F = (l[0]?).bind F := Eq.trans rfl rfl
theorem evLd_b (n : Nat) (h : Hp) (b : Pos) (o : Nat) (F : IV → Option β) : (evLd n h [.p b o]).bind F = (h.read b o n).bind fun l => F (.agg l) := by
  rw [evLd_p]; cases h.read b o n <;> rfl
theorem evNilck_b (b : Pos) (o : Nat) (F : IV → Option β) : (evNilck [.p b o]).bind F = F (.p b o) := Eq.trans rfl rfl
theorem evNilck_pib (l : List IV) (F : IV → Option β) : (evNilck [.pi l]).bind F = F (.pi l) := Eq.trans rfl rfl
theorem evLens_slb {α : Type} (f : α → List IV) (l : List α) (F : IV → Option β) : (evLens [sl f l]).bind F = F (.i .i64 l.length) := by rw [sl_len]; rfl
theorem evLens_sb (b : Pos) (o n c z : Nat) (F : IV → Option β) : (evLens [.sl b o n c z]).bind F = F (.i .i64 n) := Eq.trans rfl rfl
theorem evLens_snb (F : IV → Option β) : (evLens [.sn]).bind F = F (.i .i64 0) := Eq.trans rfl rfl
theorem evLss_b (k : IntKind) (x y : Int) (F : IV → Option β) : (evBin .lss [.i k x, .i k y]).bind F = F (.b (decide (x < y))) := by rw [evBin_lss]; rfl
theorem evLeq_b (k : IntKind) (x y : Int) (F : IV → Option β) : (evBin .leq [.i k x, .i k y]).bind F = F (.b (decide (x ≤ y))) := by rw [evBin_leq]; rfl
theorem evGtr_b (k : IntKind) (x y : Int) (F : IV → Option β) : (evBin .gtr [.i k x, .i k y]).bind F = F (.b (decide (y < x))) := by rw [evBin_gtr]; rfl
theorem evGeq_b (k : IntKind) (x y : Int) (F : IV → Option β) : (evBin .geq [.i k x, .i k y]).bind F = F (.b (decide (y ≤ x))) := by rw [evBin_geq]; rfl
theorem evEql_b (k : IntKind) (x y : Int) (F : IV → Option β) : (evBin .eql [.i k x, .i k y]).bind F = F (.b (decide (x = y))) := by rw [evBin_eql]; rfl
theorem evNeq_b (k : IntKind) (x y : Int) (F : IV → Option β) : (evBin .neq [.i k x, .i k y]).bind F = F (.b (!decide (x = y))) := by rw [evBin_neq]; rfl
theorem evAdd_b (k : IntKind) (x y : Int) (F : IV → Option β) : (evBin .add [.i k x, .i k y]).bind F = F (.i k (k.wrap (x + y))) := by rw [evBin_add]; rfl
theorem evSub_b (k : IntKind) (x y : Int) (F : IV → Option β) : (evBin .sub [.i k x, .i k y]).bind F = F (.i k (k.wrap (x - y))) := by rw [evBin_sub]; rfl
theorem evNot_b (x : Bool) (F : IV → Option β) : (evNot [.b x]).bind F = F (.b (!x)) := Eq.trans rfl rfl
theorem evPick_t (x y : IV) (F : IV → Option β) : (evPick [.b true, x, y]).bind F = F x := Eq.trans rfl rfl
theorem evPick_f (x y : IV) (F : IV → Option β) : (evPick [.b false, x, y]).bind F = F y := Eq.trans rfl rfl
theorem condR_t (x y : R) : condR x y (.b true) = x := Eq.trans rfl rfl
theorem condR_f (x y : R) : condR x y (.b false) = y := Eq.trans rfl rfl
theorem want_ff {α : Type} (x y : α) : cond (wantV false (.b false)) x y = x := Eq.trans rfl rfl
theorem want_ft {α : Type} (x y : α) : cond (wantV false (.b true)) x y = y := Eq.trans rfl rfl
theorem want_tf {α : Type} (x y : α) : cond (wantV true (.b false)) x y = y := Eq.trans rfl rfl
theorem want_tt {α : Type} (x y : α) : cond (wantV true (.b true)) x y = x := Eq.trans rfl rfl
theorem want_ffb (x y : Option α) (F : α → Option β) : (cond (wantV false (.b false)) x y).bind F = x.bind F := Eq.trans rfl rfl
theorem want_ftb (x y : Option α) (F : α → Option β) : (cond (wantV false (.b true)) x y).bind F = y.bind F := Eq.trans rfl rfl
theorem want_tfb (x y : Option α) (F : α → Option β) : (cond (wantV true (.b false)) x y).bind F = y.bind F := Eq.trans rfl rfl
theorem want_ttb (x y : Option α) (F : α → Option β) : (cond (wantV true (.b true)) x y).bind F = x.bind F := Eq.trans rfl rfl
theorem bind_some_eta {α : Type} (x : Option α) (F : α → Option β) : (x.bind fun v => some v).bind F = x.bind F := by cases x <;> rfl
theorem consIf_wff {α : Type} (x : α) (l : List α) : consIf (wantV false (.b false)) x l = x :: l := Eq.trans rfl rfl
theorem consIf_wft {α : Type} (x : α) (l : List α) : consIf (wantV false (.b true)) x l = l := Eq.trans rfl rfl
theorem consIf_wtf {α : Type} (x : α) (l : List α) : consIf (wantV true (.b false)) x l = l := Eq.trans rfl rfl
theorem consIf_wtt {α : Type} (x : α) (l : List α) : consIf (wantV true (.b true)) x l = x :: l := Eq.trans rfl rfl
theorem evEqb_self (x : Bool) (F : IV → Option β) : (evEqb true [.b x, .b x]).bind F = F (.b false) := by cases x <;> rfl
theorem sl1 {H : Hp} {p : Pos} {o : Nat} {v : IV} (h : H.read1 p o = some v) (x y : α) : cond (cond (sameLook .ld1 [.p p o] H v) true false) x y = x := by
  rw [sameLook_ld1, evLd1_p, h, sameO_self]; rfl
theorem slL {H : Hp} {n : Nat} {u v : IV} (h : evLd n H [u] = some v) (x y : α) : cond (cond (sameLook (.ld n) [u] H v) true false) x y = x := by
  rw [sameLook_ld, h, sameO_self]; rfl
theorem bassoc {γ : Type} (x : Option α) (f : α → Option β) (g : β → Option γ) : (x.bind f).bind g = x.bind fun a => (f a).bind g := by cases x <;> rfl
theorem cond_nb {c : Bool} (h : c = true) (a : α) (F : α → Option β) : (cond c (some a) none).bind F = F a := by rw [h]; rfl
end Go.Proofs.YtkfdbldnghcngaaGreat
/- Contracts: the document's Agree, whole. -/
namespace Go.Proofs.YtkfdbldnghcngaaGreat
open Go.Fg
theorem step29 {c : Bool} {H : Hp} {p q : Pos} {n : Nat} {k : IntKind} {x y : Int} (hx : H.read1 p n = some (.i k x)) (hy : H.read1 q n = some (.i k y)) (K : IV → R) :
    ((cond (wantV false (.b c)) (evFa n [.p p 0]) (some undefd)).bind fun v10 =>
     (cond (wantV false (.b c)) (evLd1 H [v10]) (some undefd)).bind fun v11 =>
     (cond (wantV false (.b c)) (evFa n [.p q 0]) (some undefd)).bind fun v12 =>
     (cond (wantV false (.b c)) (evLd1 H [v12]) (some undefd)).bind fun v13 =>
     (cond (wantV false (.b c)) (evBin .neq [v11, v13]) (some undefd)).bind fun v14 =>
     (evPick [.b c, .b true, v14]).bind K) = K (.b (c || !decide (x = y))) := by
  cases c <;> simp [hx, hy]
theorem len29 {c : Bool} {H : Hp} {p q : Pos} {n : Nat} {xs ys : List Wait} (hx : H.read1 p n = some (sl Wait.c xs)) (hy : H.read1 q n = some (sl Wait.c ys)) (K : IV → R) :
    ((cond (wantV false (.b c)) (evFa n [.p p 0]) (some undefd)).bind fun v28 =>
     (cond (wantV false (.b c)) (evLd1 H [v28]) (some undefd)).bind fun v29 =>
     (cond (wantV false (.b c)) (evLens [v29]) (some undefd)).bind fun v30 =>
     (cond (wantV false (.b c)) (evFa n [.p q 0]) (some undefd)).bind fun v31 =>
     (cond (wantV false (.b c)) (evLd1 H [v31]) (some undefd)).bind fun v32 =>
     (cond (wantV false (.b c)) (evLens [v32]) (some undefd)).bind fun v33 =>
     (cond (wantV false (.b c)) (evBin .neq [v30, v33]) (some undefd)).bind fun v34 =>
     (evPick [.b c, .b true, v34]).bind K) = K (.b (c || !decide ((xs.length : Int) = ys.length))) := by
  cases c <;> simp [hx, hy]
theorem last29 (a b : Outcome) (j : R) (H : Hp) (hj : a.waits.length = b.waits.length → j = some (.b (decide (a.waits = b.waits)), H)) :
    condR (some (.b false, H)) j (.b (!(decide (a.vals = b.vals) && decide (a.cells = b.cells)) || !decide (a.fires = b.fires) || !decide (a.contexts = b.contexts) || !decide (a.structs = b.structs) || !decide ((a.waits.length : Int) = b.waits.length))) = some (.b (agreeM a b), H) := by
  unfold agreeM
  generalize decide (a.vals = b.vals) = c1
  generalize decide (a.cells = b.cells) = c2
  generalize decide (a.fires = b.fires) = c3
  generalize decide (a.contexts = b.contexts) = c4
  generalize decide (a.structs = b.structs) = c5
  by_cases d : a.waits.length = b.waits.length
  · have d' : (a.waits.length : Int) = b.waits.length := by omega
    rw [hj d]
    generalize decide (a.waits = b.waits) = c6
    rw [decide_eq_true d']
    cases c1 <;> cases c2 <;> cases c3 <;> cases c4 <;> cases c5 <;> cases c6 <;> rfl
  · have d' : ¬ (a.waits.length : Int) = b.waits.length := by omega
    have hw : ¬ a.waits = b.waits := fun e => d (by rw [e])
    rw [decide_eq_false d', decide_eq_false hw]
    cases c1 <;> cases c2 <;> cases c3 <;> cases c4 <;> cases c5 <;> rfl
theorem g29 (a b : Outcome) (ta : thin a) : Gives 29 [.agg a.c, .agg b.c] (.b (agreeM a b)) := gives_of ok29 rfl rfl (by
  obtain ⟨t1, t2, t3, t4, t5⟩ := ta
  have g1 := (g41 a.vals b.vals a.cells b.cells (by omega) (by omega) (fun x hx => by have := t4 x hx; omega)).at rfl
  have hp : ((Hp.empty.new (.cells 7 a.c)).new (.cells 7 b.c)).get .h = some (.cells 7 a.c) := by simp
  have hq : ((Hp.empty.new (.cells 7 a.c)).new (.cells 7 b.c)).get (.o .h) = some (.cells 7 b.c) := by simp
  rw [r29]
  simp only [bl_eq, cells_agg, lenN_eq, Hp.next_new, empty_next, Pos.nxt_h, Outcome.c_len]
  generalize (Hp.empty.new (.cells 7 a.c)).new (.cells 7 b.c) = H at hp hq
  have j5 := j29 a b ⟨t1, t2, t3, t4, t5⟩ H hp hq
  refine ⟨H, ?_⟩
  have a0 : evLd 2 H [.p .h (0 + 0)] = some (.agg (picC a.vals a.cells)) := by rw [evLd_p]; exact congrArg (Option.map IV.agg) (read_pic hp)
  have b0 : evLd 2 H [.p (.o .h) (0 + 0)] = some (.agg (picC b.vals b.cells)) := by rw [evLd_p]; exact congrArg (Option.map IV.agg) (read_pic hq)
  have a2 : H.read1 .h 2 = some (.i .i64 a.fires) := ld1_of hp
  have a3 : H.read1 .h 3 = some (.i .i64 a.contexts) := ld1_of hp
  have a4 : H.read1 .h 4 = some (.i .i64 a.structs) := ld1_of hp
  have a6 : H.read1 .h 6 = some (sl Wait.c a.waits) := ld1_of hp
  have b2 : H.read1 (.o .h) 2 = some (.i .i64 b.fires) := ld1_of hq
  have b3 : H.read1 (.o .h) 3 = some (.i .i64 b.contexts) := ld1_of hq
  have b4 : H.read1 (.o .h) 4 = some (.i .i64 b.structs) := ld1_of hq
  have b6 : H.read1 (.o .h) 6 = some (sl Wait.c b.waits) := ld1_of hq
  rw [evFa_p 0 .h 0, Option.bind_some, a0, Option.bind_some, evFa_p 0 (.o .h) 0, Option.bind_some, b0, Option.bind_some, g1 H, Option.bind_some]
  dsimp only
  rw [evNot_eq, Option.bind_some, step29 a2 b2, step29 a3 b3, step29 a4 b4, len29 a6 b6]
  exact last29 a b _ H j5)
end Go.Proofs.YtkfdbldnghcngaaGreat
