/- The seat's program: lists of outcomes. -/
import Derived.Test.YtgboonfbfapaaaaGreatFd
import Derived.Test.YtgboonfbfapaaaaGreatProg
import Derived.KernelRfl
set_option linter.unusedVariables false
set_option linter.unusedSimpArgs false
set_option linter.unusedSectionVars false
namespace Go.Proofs.YtgboonfbfapaaaaGreat
open Go.Fg
noncomputable def P9 : Program := Tryz.prog
noncomputable def Z9 : Nat → Oper → Bool := fun _ _ => false
/-- The functions with more than one outcome. -/
def nds : List Nat := [10, 12, 13, 14, 17, 18, 19, 33, 35, 39, 41]
noncomputable def TT : Pos → Option TFn := fun p => cond (memN (p.num - 1) nds) (cond (Nat.ble p.num 1000000) (compTFn P9 (p.num - 1)) none) none
theorem TT_ok : ∀ n f, n < 1000000 → TT (pos n) = some f → compTFn P9 n = some f := fun n f hn h => by
  unfold TT at h
  obtain ⟨_, h⟩ := cond_some h
  obtain ⟨_, h⟩ := cond_some h
  rwa [num_pos hn, Nat.add_sub_cancel] at h
theorem hm9 : P9.follows .mixedOrders = true := by kernel_rfl
noncomputable def cfN : CallF := callN (tab P9 Z9) 100000000 1000
theorem cfN_sim : CSim P9 cfN := sound (Z := Z9) hm9 tab_ok 100000000 1000
noncomputable def cfT : CallT := callNT cfN TT 100000 20
theorem cfT_sim : CSimT P9 cfT := callNT_sound hm9 cfN_sim TT_ok 20
noncomputable def goT (k : Nat) (args : List IV) (u : IV) : Bool := match cfT (pos k) args Hp.empty with
  | some L => allTell u L
  | none => false
theorem goT_tells {k : Nat} {args : List IV} {u : IV} (hk : k < 1000000) (h : goT k args u = true) : Tells P9 k args u := by
  unfold goT at h
  split at h
  · rename_i L e
    exact tells_T cfT_sim hk e h
  · cases h
end Go.Proofs.YtgboonfbfapaaaaGreat
/- The seat's program on the ideal machine, contracts. -/
namespace Go.Proofs.YtgboonfbfapaaaaGreat
open Go.Fg
noncomputable def okk (k : Nat) : Bool := okN P9 Z9 k
noncomputable def xx (cf : CallF) (k : Nat) (args : List IV) (h : Hp) : R := X0 cf (lfn P9 Z9 k) args h
noncomputable def jj (cf : CallF) (k j : Nat) (vs : List IV) (h : Hp) : R := J cf (lfn P9 Z9 k) j vs h
noncomputable def jx (cf : CallF) (k j : Nat) (vs : List IV) (h : Hp) : R := XJ cf (lfn P9 Z9 k) j vs h
theorem jj_eq {k : Nat} (ok : okk k = true) (cf : CallF) (j : Nat) (vs : List IV) (h : Hp) : jj cf k j vs h = jx cf k j vs h := place ok cf j vs h
def imps : List Nat := []
noncomputable def imp9 : Pos → Bool := fun p => memN (p.num - 1) imps
noncomputable def W9 : CallF := W (fun _ _ => none) imp9 (tab P9 Z9)
theorem call9 {k : Nat} (ok : okk k = true) (hi : imp9 (pos k) = false) {args args' : List IV} {h h1 h2 h3 : Hp} {r r' : IV} (ha : frzs h args = some (args', h1)) (e : xx W9 k args' Hp.empty = some (r, h2)) (hr : frz h2 r = some (r', h3)) : W9 (pos k) args h = some (r', h1) :=
  call_pure ok hi ha rfl e hr
theorem call9i {k : Nat} (ok : okk k = true) (hi : imp9 (pos k) = true) {args : List IV} {h : Hp} {r : IV × Hp} (e : xx W9 k args h = some r) : W9 (pos k) args h = some r :=
  call_imp ok hi e
end Go.Proofs.YtgboonfbfapaaaaGreat
/- The data of the program, and how the machine holds them. -/
namespace Go.Proofs.YtgboonfbfapaaaaGreat
open Go.Fg

abbrev Str := List Nat
def int (n : Int) : IV := .i .i64 n
def sl {α : Type} (f : α → List IV) (l : List α) : IV := .sli (l.map f)
structure From where
  node : Int
  out : Int
  deriving DecidableEq
def From.c (f : From) : List IV := [.i .i64 f.node, .i .i64 f.out]
structure Node where
  op : Int
  name : Str
  n : Int
  ins : List From
  deriving DecidableEq
def Node.c (x : Node) : List IV := [.i .u8 x.op, .s x.name, .i .i64 x.n, sl From.c x.ins]
structure Block where
  name : Str
  params : Int
  nodes : List Node
  nexts : List From
  exits : List From
  deriving DecidableEq
def Block.c (b : Block) : List IV := [.s b.name, .i .i64 b.params, sl Node.c b.nodes, sl From.c b.nexts, sl From.c b.exits]
structure Val where
  kind : Int
  n : Int
  deriving DecidableEq
def Val.c (v : Val) : List IV := [.i .u8 v.kind, .i .i64 v.n]

@[simp] theorem From.c_len (f : From) : f.c.length = 2 := rfl
@[simp] theorem Node.c_len (f : Node) : f.c.length = 4 := rfl
@[simp] theorem Block.c_len (f : Block) : f.c.length = 5 := rfl
@[simp] theorem Val.c_len (f : Val) : f.c.length = 2 := rfl
@[simp] theorem sl_len {α : Type} (f : α → List IV) (l : List α) : evLens [sl f l] = some (.i .i64 l.length) := by unfold sl; simp
theorem sl_ia {α : Type} {f : α → List IV} {z : Nat} {l : List α} {i : Nat} {x : α} {k : IntKind} (h : l[i]? = some x) (hz : (f x).length = z) : evIa z [sl f l, .i k (i : Int)] = some (.pi (f x)) := by
  unfold sl
  exact evIa_sli (by rw [List.getElem?_map, h]; rfl) hz
@[simp] theorem im_sl {α : Type} (f : α → List IV) (l : List α) : Im (sl f l) = true := rfl
@[simp] theorem frz_sl' {α : Type} (h : Hp) (f : α → List IV) (l : List α) : frz h (sl f l) = some (sl f l, h) := rfl
@[simp] theorem cells_sl' {α : Type} (f : α → List IV) (l : List α) : IV.cells (sl f l) = [sl f l] := rfl
@[simp] theorem atom_sl' {α : Type} (f : α → List IV) (l : List α) : isAtomV (sl f l) = true := rfl
@[simp] theorem ims (x : Bool) (k : IntKind) (n : Int) (l : List Nat) (m : List IV) (q : List (List IV)) (m1 m2 : List IV) : Im (.b x) = true ∧ Im (.i k n) = true ∧ Im (.s l) = true ∧ Im .pn = true ∧ Im (.pi m) = true ∧ Im (.sli q) = true ∧ Im (.mi m1 m2) = true := ⟨rfl, rfl, rfl, rfl, rfl, rfl, rfl⟩
end Go.Proofs.YtgboonfbfapaaaaGreat
/- The outcomes of chapter 9, and how they are read. -/
namespace Go.Proofs.YtgboonfbfapaaaaGreat
open Go.Fg

structure Hop where
  node : Int
  turn : Int
  deriving DecidableEq
def Hop.c (f : Hop) : List IV := [.i .i64 f.node, .i .i64 f.turn]
structure Wait where
  path : List Hop
  node : Int
  deriving DecidableEq
def Wait.c (x : Wait) : List IV := [sl Hop.c x.path, .i .i64 x.node]
def cellC (l : List Val) : List IV := [sl Val.c l]
structure Outcome where
  vals : List Val
  cells : List (List Val)
  fires : Int
  contexts : Int
  structs : Int
  rounds : Int
  waits : List Wait
  deriving DecidableEq
def Outcome.c (o : Outcome) : List IV := [sl Val.c o.vals, sl cellC o.cells, .i .i64 o.fires, .i .i64 o.contexts, .i .i64 o.structs, .i .i64 o.rounds, sl Wait.c o.waits]
@[simp] theorem Hop.c_len (f : Hop) : f.c.length = 2 := rfl
@[simp] theorem Wait.c_len (f : Wait) : f.c.length = 2 := rfl
@[simp] theorem cellC_len (f : List Val) : (cellC f).length = 1 := rfl
@[simp] theorem Outcome.c_len (f : Outcome) : f.c.length = 7 := rfl

def isI (n : Int) : Prop := IntKind.i64.min ≤ n ∧ n ≤ IntKind.i64.max
def isU8 (n : Int) : Prop := IntKind.u8.min ≤ n ∧ n ≤ IntKind.u8.max
def oks {α : Type} (ok : α → Prop) (l : List α) : Prop := (∀ a ∈ l, ok a) ∧ l.length ≤ maxLen
def Hop.ok (h : Hop) : Prop := isI h.node ∧ isI h.turn
def Wait.ok (x : Wait) : Prop := oks Hop.ok x.path ∧ isI x.node
def Val.ok (v : Val) : Prop := isU8 v.kind ∧ isI v.n
def Outcome.ok (o : Outcome) : Prop := oks Val.ok o.vals ∧ oks (oks Val.ok) o.cells ∧ isI o.fires ∧ isI o.contexts ∧ isI o.structs ∧ isI o.rounds ∧ oks Wait.ok o.waits

end Go.Proofs.YtgboonfbfapaaaaGreat
/- What the functions compute. -/
namespace Go.Proofs.YtgboonfbfapaaaaGreat
open Go.Fg
/- 3 floodgate/floodgatelaw23.WaitLess: 2 parameters -/
theorem ok3 : okk 3 = true := by kernel_rfl
theorem r3 (cf : CallF) (a0 a1 : IV) (h : Hp) : xx cf 3 [a0, a1] h =
 bl (.p (h).next 0) ((h).new (.cells (lenN (IV.cells a0)) (IV.cells a0))) fun v0 h1 =>
 bl (.p (h1).next 0) ((h1).new (.cells (lenN (IV.cells a1)) (IV.cells a1))) fun v2 h3 =>
 (evFa 1 [v0]).bind fun v4 =>
 (evLd1 h3 [v4]).bind fun v5 =>
 (evLens [v5]).bind fun v6 =>
 (evBin .gtr [v6, (.i .i64 8)]).bind fun v7 =>
 (cond (wantV false v7) (evFa 1 [v2]) (some undefd)).bind fun v8 =>
 (cond (wantV false v7) (evLd1 h3 [v8]) (some undefd)).bind fun v9 =>
 (cond (wantV false v7) (evLens [v9]) (some undefd)).bind fun v10 =>
 (cond (wantV false v7) (evBin .gtr [v10, (.i .i64 8)]) (some undefd)).bind fun v11 =>
 (evPick [v7, (.b true), v11]).bind fun v12 =>
 condR (
 (cf (pos 5) [] h3).bind fun p13 =>
 some (p13.1, p13.2)) (
 jj cf 3 1 [v2, v0] h3) v12 := by kernel_rfl
/- join -/
theorem r3_1 (cf : CallF) (x3 x2 : IV) (h : Hp) : jj cf 3 1 [x3, x2] h =
 (evLd 7 h [x2]).bind fun v0 =>
 (cf (pos 7) [v0] h).bind fun p1 =>
 (evLd 7 p1.2 [x3]).bind fun v2 =>
 cond (cond (sameLook (.ld 7) [x3] h v2) true false) (
 (cf (pos 7) [v2] p1.2).bind fun p3 =>
 (cf (pos 6) [p1.1, p3.1] p3.2).bind fun p4 =>
 (evLd 7 p4.2 [x2]).bind fun v5 =>
 cond (cond (sameLook (.ld 7) [x2] p3.2 v5) (cond (sameLook (.ld 7) [x2] p1.2 v5) (cond (sameLook (.ld 7) [x2] h v5) true false) false) false) (
 (evLd 7 p4.2 [x3]).bind fun v6 =>
 cond (cond (sameLook (.ld 7) [x3] p3.2 v6) (cond (sameLook (.ld 7) [x3] p1.2 v6) (cond (sameLook (.ld 7) [x3] h v6) true false) false) false) (
 (cf (pos 8) [v5, v6] p4.2).bind fun p7 =>
 (evEqb false [p4.1, p7.1]).bind fun v8 =>
 (cond (wantV true v8) ((evLd 7 p7.2 [x3]).bind fun v43 => some v43) (some undefd)).bind fun v9 =>
 (cond (wantV true v8) ((cf (pos 7) [v9] p7.2).bind fun p42 => cond (seenAgain 2047 p42.2 (consIf (wantV true v8) ⟨10, (.ld 7), [x3], v9⟩ (⟨5, (.ld 7), [x2], v5⟩ :: (⟨2, (.ld 7), [x3], v2⟩ :: (⟨0, (.ld 7), [x2], v0⟩ :: []))))) (
 some p42) none) (some (undefd, p7.2))).bind fun p10 =>
 (cond (wantV true v8) ((evLd 7 p10.2 [x2]).bind fun v41 => cond (seenBefore 1023 (.ld 7) [x2] v41 (consIf (wantV true v8) (11, p7.2) ((4, p3.2) :: ((3, p1.2) :: ((1, h) :: []))))) (
 some v41) none) (some undefd)).bind fun v11 =>
 (cond (wantV true v8) ((cf (pos 7) [v11] p10.2).bind fun p40 => cond (seenAgain 8191 p40.2 (consIf (wantV true v8) ⟨12, (.ld 7), [x2], v11⟩ (consIf (wantV true v8) ⟨10, (.ld 7), [x3], v9⟩ (⟨5, (.ld 7), [x2], v5⟩ :: (⟨2, (.ld 7), [x3], v2⟩ :: (⟨0, (.ld 7), [x2], v0⟩ :: [])))))) (
 some p40) none) (some (undefd, p10.2))).bind fun p12 =>
 (cond (wantV true v8) ((cf (pos 6) [p10.1, p12.1] p12.2).bind fun p39 => cond (seenAgain 16383 p39.2 (consIf (wantV true v8) ⟨12, (.ld 7), [x2], v11⟩ (consIf (wantV true v8) ⟨10, (.ld 7), [x3], v9⟩ (⟨5, (.ld 7), [x2], v5⟩ :: (⟨2, (.ld 7), [x3], v2⟩ :: (⟨0, (.ld 7), [x2], v0⟩ :: [])))))) (
 some p39) none) (some (undefd, p12.2))).bind fun p13 =>
 (cond (wantV true v8) ((evLd 7 p13.2 [x3]).bind fun v38 => cond (seenBefore 1023 (.ld 7) [x3] v38 (consIf (wantV true v8) (14, p12.2) (consIf (wantV true v8) (13, p10.2) (consIf (wantV true v8) (11, p7.2) ((4, p3.2) :: ((3, p1.2) :: ((1, h) :: []))))))) (
 some v38) none) (some undefd)).bind fun v14 =>
 (cond (wantV true v8) ((evLd 7 p13.2 [x2]).bind fun v37 => cond (seenBefore 1023 (.ld 7) [x2] v37 (consIf (wantV true v8) (14, p12.2) (consIf (wantV true v8) (13, p10.2) (consIf (wantV true v8) (11, p7.2) ((4, p3.2) :: ((3, p1.2) :: ((1, h) :: []))))))) (
 some v37) none) (some undefd)).bind fun v15 =>
 (cond (wantV true v8) ((cf (pos 8) [v14, v15] p13.2).bind fun p36 => cond (seenAgain 131071 p36.2 (consIf (wantV true v8) ⟨15, (.ld 7), [x3], v14⟩ (consIf (wantV true v8) ⟨12, (.ld 7), [x2], v11⟩ (consIf (wantV true v8) ⟨10, (.ld 7), [x3], v9⟩ (⟨5, (.ld 7), [x2], v5⟩ :: (⟨2, (.ld 7), [x3], v2⟩ :: (⟨0, (.ld 7), [x2], v0⟩ :: []))))))) (
 some p36) none) (some (undefd, p13.2))).bind fun p16 =>
 (cond (wantV true v8) ((evEqb false [p13.1, p16.1]).bind fun v35 => some v35) (some undefd)).bind fun v17 =>
 (evPick [v8, v17, (.b false)]).bind fun v18 =>
 (cond (wantV true v18) ((evLd 7 p16.2 [x2]).bind fun v34 => cond (seenBefore 2097151 (.ld 7) [x2] v34 (consIf (wantV true v8) (14, p12.2) (consIf (wantV true v8) (13, p10.2) (consIf (wantV true v8) (11, p7.2) ((4, p3.2) :: ((3, p1.2) :: ((1, h) :: []))))))) (
 some v34) none) (some undefd)).bind fun v19 =>
 (cond (wantV true v18) ((cf (pos 7) [v19] p16.2).bind fun p33 => cond (seenAgain 4194303 p33.2 (consIf (wantV true v18) ⟨21, (.ld 7), [x2], v19⟩ (consIf (wantV true v8) ⟨15, (.ld 7), [x3], v14⟩ (consIf (wantV true v8) ⟨12, (.ld 7), [x2], v11⟩ (consIf (wantV true v8) ⟨10, (.ld 7), [x3], v9⟩ (⟨5, (.ld 7), [x2], v5⟩ :: (⟨2, (.ld 7), [x3], v2⟩ :: (⟨0, (.ld 7), [x2], v0⟩ :: [])))))))) (
 some p33) none) (some (undefd, p16.2))).bind fun p20 =>
 (cond (wantV true v18) ((evLd 7 p20.2 [x2]).bind fun v32 => cond (seenBefore 2097151 (.ld 7) [x2] v32 (consIf (wantV true v18) (22, p16.2) (consIf (wantV true v8) (14, p12.2) (consIf (wantV true v8) (13, p10.2) (consIf (wantV true v8) (11, p7.2) ((4, p3.2) :: ((3, p1.2) :: ((1, h) :: [])))))))) (
 some v32) none) (some undefd)).bind fun v21 =>
 (cond (wantV true v18) ((cf (pos 7) [v21] p20.2).bind fun p31 => cond (seenAgain 16777215 p31.2 (consIf (wantV true v18) ⟨21, (.ld 7), [x2], v19⟩ (consIf (wantV true v8) ⟨15, (.ld 7), [x3], v14⟩ (consIf (wantV true v8) ⟨12, (.ld 7), [x2], v11⟩ (consIf (wantV true v8) ⟨10, (.ld 7), [x3], v9⟩ (⟨5, (.ld 7), [x2], v5⟩ :: (⟨2, (.ld 7), [x3], v2⟩ :: (⟨0, (.ld 7), [x2], v0⟩ :: [])))))))) (
 some p31) none) (some (undefd, p20.2))).bind fun p22 =>
 (cond (wantV true v18) ((cf (pos 6) [p20.1, p22.1] p22.2).bind fun p30 => cond (seenAgain 33554431 p30.2 (consIf (wantV true v18) ⟨21, (.ld 7), [x2], v19⟩ (consIf (wantV true v8) ⟨15, (.ld 7), [x3], v14⟩ (consIf (wantV true v8) ⟨12, (.ld 7), [x2], v11⟩ (consIf (wantV true v8) ⟨10, (.ld 7), [x3], v9⟩ (⟨5, (.ld 7), [x2], v5⟩ :: (⟨2, (.ld 7), [x3], v2⟩ :: (⟨0, (.ld 7), [x2], v0⟩ :: [])))))))) (
 some p30) none) (some (undefd, p22.2))).bind fun p23 =>
 (cond (wantV true v18) ((evNot [p23.1]).bind fun v29 => some v29) (some undefd)).bind fun v24 =>
 (evPick [v18, v24, (.b false)]).bind fun v25 =>
 (cond (wantV true v25) ((cf (pos 5) [] p23.2).bind fun p28 => cond (seenAgain 536870911 p28.2 (consIf (wantV true v18) ⟨21, (.ld 7), [x2], v19⟩ (consIf (wantV true v8) ⟨15, (.ld 7), [x3], v14⟩ (consIf (wantV true v8) ⟨12, (.ld 7), [x2], v11⟩ (consIf (wantV true v8) ⟨10, (.ld 7), [x3], v9⟩ (⟨5, (.ld 7), [x2], v5⟩ :: (⟨2, (.ld 7), [x3], v2⟩ :: (⟨0, (.ld 7), [x2], v0⟩ :: [])))))))) (
 some p28) none) (some (undefd, p23.2))).bind fun p26 =>
 (evPick [v25, p26.1, (.b false)]).bind fun v27 =>
 some (v27, p26.2)) none) none) none :=
 (jj_eq ok3 cf 1 _ h).trans (by kernel_rfl)

/- 6 floodgate/wait.Less: 2 parameters -/
theorem ok6 : okk 6 = true := by kernel_rfl
theorem r6 (cf : CallF) (a0 a1 : IV) (h : Hp) : xx cf 6 [a0, a1] h =
 bl (.p (h).next 0) ((h).new (.cells (lenN (IV.cells a0)) (IV.cells a0))) fun v0 h1 =>
 bl (.p (h1).next 0) ((h1).new (.cells (lenN (IV.cells a1)) (IV.cells a1))) fun v2 h3 =>
 (evLd 7 h3 [v0]).bind fun v4 =>
 (evLd 7 h3 [v2]).bind fun v5 =>
 (cf (pos 26) [v4, v5] h3).bind fun p6 =>
 (evBin .lss [p6.1, (.i .i64 0)]).bind fun v7 =>
 some (v7, p6.2) := by kernel_rfl

/- 7 floodgate/floodgatelaw23.own: 1 parameters -/
theorem ok7 : okk 7 = true := by kernel_rfl
theorem r7 (cf : CallF) (a0 : IV) (h : Hp) : xx cf 7 [a0] h =
 bl (.p (h).next 0) ((h).new (.cells (lenN (IV.cells a0)) (IV.cells a0))) fun v0 h1 =>
 bl (.p (h1).next 0) ((h1).new (.cells 7 [(.i .u8 0), .sn, (.i .i64 0), (.i .i64 0), (.i .i64 0), (.i .i64 0), (.i .i64 0)])) fun v2 h3 =>
 (alRows 0 2 (h3).next []).bind fun p4 =>
 (evFa 1 [v0]).bind fun v5 =>
 (evLd1 (Hp.new h3 p4.1) [v5]).bind fun v6 =>
 (efApp 2 16 (Hp.new h3 p4.1) [p4.2, v6]).bind fun p7 =>
 (evFa 1 [v0]).bind fun v8 =>
 (efSt 1 p7.2 [v8, p7.1]).bind fun p9 =>
 (evLd 7 p9.2 [v0]).bind fun v10 =>
 (efSt 7 p9.2 [v2, v10]).bind fun p11 =>
 (evLd 7 p11.2 [v2]).bind fun v12 =>
 some (v12, p11.2) := by kernel_rfl

/- 8 floodgate/floodgateref23.Less: 2 parameters -/
theorem ok8 : okk 8 = true := by kernel_rfl
theorem r8 (cf : CallF) (a0 a1 : IV) (h : Hp) : xx cf 8 [a0, a1] h =
 bl (.p (h).next 0) ((h).new (.cells (lenN (IV.cells a0)) (IV.cells a0))) fun v0 h1 =>
 bl (.p (h1).next 0) ((h1).new (.cells (lenN (IV.cells a1)) (IV.cells a1))) fun v2 h3 =>
 (evFa 0 [v0]).bind fun v4 =>
 (evLd1 h3 [v4]).bind fun v5 =>
 (evFa 0 [v2]).bind fun v6 =>
 (evLd1 h3 [v6]).bind fun v7 =>
 (evBin .neq [v5, v7]).bind fun v8 =>
 condR (
 (evFa 0 [v0]).bind fun v9 =>
 (evLd1 h3 [v9]).bind fun v10 =>
 (evFa 0 [v2]).bind fun v11 =>
 (evLd1 h3 [v11]).bind fun v12 =>
 (evBin .lss [v10, v12]).bind fun v13 =>
 some (v13, h3)) (
 (evFa 1 [v0]).bind fun v14 =>
 (evLd1 h3 [v14]).bind fun v15 =>
 (evFa 1 [v2]).bind fun v16 =>
 (evLd1 h3 [v16]).bind fun v17 =>
 (cf (pos 27) [v15, v17] h3).bind fun p18 =>
 (evNot [p18.1]).bind fun v19 =>
 condR (
 (evFa 1 [v0]).bind fun v20 =>
 (evLd1 p18.2 [v20]).bind fun v21 =>
 (evBuild [.sn, (.i .i64 0)] [(0, 1)] [v21]).bind fun v22 =>
 (evFa 1 [v2]).bind fun v23 =>
 (evLd1 p18.2 [v23]).bind fun v24 =>
 (evBuild [.sn, (.i .i64 0)] [(0, 1)] [v24]).bind fun v25 =>
 (cf (pos 28) [v22, v25] p18.2).bind fun p26 =>
 some (p26.1, p26.2)) (
 (evFa 2 [v0]).bind fun v27 =>
 (evFa 0 [v27]).bind fun v28 =>
 (evLd1 p18.2 [v28]).bind fun v29 =>
 (evFa 2 [v2]).bind fun v30 =>
 (evFa 0 [v30]).bind fun v31 =>
 (evLd1 p18.2 [v31]).bind fun v32 =>
 (evBin .neq [v29, v32]).bind fun v33 =>
 condR (
 (evFa 2 [v0]).bind fun v34 =>
 (evFa 0 [v34]).bind fun v35 =>
 (evLd1 p18.2 [v35]).bind fun v36 =>
 (evFa 2 [v2]).bind fun v37 =>
 (evFa 0 [v37]).bind fun v38 =>
 (evLd1 p18.2 [v38]).bind fun v39 =>
 (evBin .lss [v36, v39]).bind fun v40 =>
 some (v40, p18.2)) (
 (evFa 2 [v0]).bind fun v41 =>
 (evFa 1 [v41]).bind fun v42 =>
 (evLd1 p18.2 [v42]).bind fun v43 =>
 (evFa 2 [v2]).bind fun v44 =>
 (evFa 1 [v44]).bind fun v45 =>
 (evLd1 p18.2 [v45]).bind fun v46 =>
 (evBin .neq [v43, v46]).bind fun v47 =>
 condR (
 (evFa 2 [v0]).bind fun v48 =>
 (evFa 1 [v48]).bind fun v49 =>
 (evLd1 p18.2 [v49]).bind fun v50 =>
 (evFa 2 [v2]).bind fun v51 =>
 (evFa 1 [v51]).bind fun v52 =>
 (evLd1 p18.2 [v52]).bind fun v53 =>
 (evBin .lss [v50, v53]).bind fun v54 =>
 some (v54, p18.2)) (
 (evFa 4 [v0]).bind fun v55 =>
 (evLd1 p18.2 [v55]).bind fun v56 =>
 (evFa 4 [v2]).bind fun v57 =>
 (evLd1 p18.2 [v57]).bind fun v58 =>
 (evBin .neq [v56, v58]).bind fun v59 =>
 condR (
 (evFa 4 [v0]).bind fun v60 =>
 (evLd1 p18.2 [v60]).bind fun v61 =>
 (evFa 4 [v2]).bind fun v62 =>
 (evLd1 p18.2 [v62]).bind fun v63 =>
 (evBin .lss [v61, v63]).bind fun v64 =>
 some (v64, p18.2)) (
 (evFa 5 [v0]).bind fun v65 =>
 (evLd1 p18.2 [v65]).bind fun v66 =>
 (evFa 5 [v2]).bind fun v67 =>
 (evLd1 p18.2 [v67]).bind fun v68 =>
 (evBin .neq [v66, v68]).bind fun v69 =>
 condR (
 (evFa 5 [v0]).bind fun v70 =>
 (evLd1 p18.2 [v70]).bind fun v71 =>
 (evFa 5 [v2]).bind fun v72 =>
 (evLd1 p18.2 [v72]).bind fun v73 =>
 (evBin .lss [v71, v73]).bind fun v74 =>
 some (v74, p18.2)) (
 jj cf 8 1 [v0, v2] p18.2) v69) v59) v47) v33) v19) v8 := by kernel_rfl
/- join -/
theorem r8_1 (cf : CallF) (x2 x3 : IV) (h : Hp) : jj cf 8 1 [x2, x3] h =
 (evFa 6 [x2]).bind fun v0 =>
 (evLd1 h [v0]).bind fun v1 =>
 (evFa 6 [x3]).bind fun v2 =>
 (evLd1 h [v2]).bind fun v3 =>
 (evBin .lss [v1, v3]).bind fun v4 =>
 some (v4, h) :=
 (jj_eq ok8 cf 1 _ h).trans (by kernel_rfl)

/- 26 floodgate/wait.compare: 2 parameters -/
theorem ok26 : okk 26 = true := by kernel_rfl
theorem r26 (cf : CallF) (a0 a1 : IV) (h : Hp) : xx cf 26 [a0, a1] h =
 bl (.p (h).next 0) ((h).new (.cells (lenN (IV.cells a0)) (IV.cells a0))) fun v0 h1 =>
 bl (.p (h1).next 0) ((h1).new (.cells (lenN (IV.cells a1)) (IV.cells a1))) fun v2 h3 =>
 (evFa 1 [v0]).bind fun v4 =>
 (evLd1 h3 [v4]).bind fun v5 =>
 (evFa 1 [v2]).bind fun v6 =>
 (evLd1 h3 [v6]).bind fun v7 =>
 (cf (pos 46) [v5, v7, (.f (pos 47) [])] h3).bind fun p8 =>
 (evFa 0 [v0]).bind fun v9 =>
 (evLd1 p8.2 [v9]).bind fun v10 =>
 (evFa 0 [v2]).bind fun v11 =>
 (evLd1 p8.2 [v11]).bind fun v12 =>
 (cf (pos 50) [v10, v12] p8.2).bind fun p13 =>
 (evFa 2 [v0]).bind fun v14 =>
 (evFa 0 [v14]).bind fun v15 =>
 (evLd1 p13.2 [v15]).bind fun v16 =>
 cond (cond (sameLook .ld1 [v15] p8.2 v16) true false) (
 (evFa 2 [v2]).bind fun v17 =>
 (evFa 0 [v17]).bind fun v18 =>
 (evLd1 p13.2 [v18]).bind fun v19 =>
 cond (cond (sameLook .ld1 [v18] p8.2 v19) true false) (
 (cf (pos 49) [v16, v19] p13.2).bind fun p20 =>
 (evFa 2 [v0]).bind fun v21 =>
 (evFa 1 [v21]).bind fun v22 =>
 (evLd1 p20.2 [v22]).bind fun v23 =>
 cond (cond (sameLook .ld1 [v22] p13.2 v23) (cond (sameLook .ld1 [v22] p8.2 v23) true false) false) (
 (evFa 2 [v2]).bind fun v24 =>
 (evFa 1 [v24]).bind fun v25 =>
 (evLd1 p20.2 [v25]).bind fun v26 =>
 cond (cond (sameLook .ld1 [v25] p13.2 v26) (cond (sameLook .ld1 [v25] p8.2 v26) true false) false) (
 (cf (pos 49) [v23, v26] p20.2).bind fun p27 =>
 (evFa 4 [v0]).bind fun v28 =>
 (evLd1 p27.2 [v28]).bind fun v29 =>
 cond (cond (sameLook .ld1 [v28] p20.2 v29) (cond (sameLook .ld1 [v28] p13.2 v29) (cond (sameLook .ld1 [v28] p8.2 v29) true false) false) false) (
 (evFa 4 [v2]).bind fun v30 =>
 (evLd1 p27.2 [v30]).bind fun v31 =>
 cond (cond (sameLook .ld1 [v30] p20.2 v31) (cond (sameLook .ld1 [v30] p13.2 v31) (cond (sameLook .ld1 [v30] p8.2 v31) true false) false) false) (
 (cf (pos 49) [v29, v31] p27.2).bind fun p32 =>
 (evFa 5 [v0]).bind fun v33 =>
 (evLd1 p32.2 [v33]).bind fun v34 =>
 cond (cond (sameLook .ld1 [v33] p27.2 v34) (cond (sameLook .ld1 [v33] p20.2 v34) (cond (sameLook .ld1 [v33] p13.2 v34) (cond (sameLook .ld1 [v33] p8.2 v34) true false) false) false) false) (
 (evFa 5 [v2]).bind fun v35 =>
 (evLd1 p32.2 [v35]).bind fun v36 =>
 cond (cond (sameLook .ld1 [v35] p27.2 v36) (cond (sameLook .ld1 [v35] p20.2 v36) (cond (sameLook .ld1 [v35] p13.2 v36) (cond (sameLook .ld1 [v35] p8.2 v36) true false) false) false) false) (
 (cf (pos 49) [v34, v36] p32.2).bind fun p37 =>
 (evFa 6 [v0]).bind fun v38 =>
 (evLd1 p37.2 [v38]).bind fun v39 =>
 cond (cond (sameLook .ld1 [v38] p32.2 v39) (cond (sameLook .ld1 [v38] p27.2 v39) (cond (sameLook .ld1 [v38] p20.2 v39) (cond (sameLook .ld1 [v38] p13.2 v39) (cond (sameLook .ld1 [v38] p8.2 v39) true false) false) false) false) false) (
 (evFa 6 [v2]).bind fun v40 =>
 (evLd1 p37.2 [v40]).bind fun v41 =>
 cond (cond (sameLook .ld1 [v40] p32.2 v41) (cond (sameLook .ld1 [v40] p27.2 v41) (cond (sameLook .ld1 [v40] p20.2 v41) (cond (sameLook .ld1 [v40] p13.2 v41) (cond (sameLook .ld1 [v40] p8.2 v41) true false) false) false) false) false) (
 (cf (pos 49) [v39, v41] p37.2).bind fun p42 =>
 (alRows 7 1 (p42.2).next [p13.1, p8.1, p20.1, p27.1, p32.1, p37.1, p42.1]).bind fun p43 =>
 (cf (pos 48) [p43.2] (Hp.new p42.2 p43.1)).bind fun p44 =>
 some (p44.1, p44.2)) none) none) none) none) none) none) none) none) none) none := by kernel_rfl

/- 27 floodgate/floodgateref09.SamePath: 2 parameters -/
theorem ok27 : okk 27 = true := by kernel_rfl
theorem r27 (cf : CallF) (a0 a1 : IV) (h : Hp) : xx cf 27 [a0, a1] h =
 (evLens [a0]).bind fun v0 =>
 (evLens [a1]).bind fun v1 =>
 (evBin .neq [v0, v1]).bind fun v2 =>
 condR (
 some ((.b false), h)) (
 jj cf 27 5 [a0, a1] h) v2 := by kernel_rfl
/- join -/
theorem r27_5 (cf : CallF) (x0 x1 : IV) (h : Hp) : jj cf 27 5 [x0, x1] h =
 jj cf 27 2 [x0, x1, (.i .i64 0)] h :=
 (jj_eq ok27 cf 5 _ h).trans (by kernel_rfl)
/- join -/
theorem r27_1 (cf : CallF) (h : Hp) : jj cf 27 1 [] h =
 some ((.b true), h) :=
 (jj_eq ok27 cf 1 _ h).trans (by kernel_rfl)
/- loop -/
theorem r27_2 (cf : CallF) (x0 x1 x5 : IV) (h : Hp) : jj cf 27 2 [x0, x1, x5] h =
 (evLens [x0]).bind fun v0 =>
 (evBin .lss [x5, v0]).bind fun v1 =>
 condR (
 jj cf 27 4 [x5, x0, x1] h) (
 jj cf 27 1 [] h) v1 :=
 (jj_eq ok27 cf 2 _ h).trans (by kernel_rfl)
/- join -/
theorem r27_4 (cf : CallF) (x5 x0 x1 : IV) (h : Hp) : jj cf 27 4 [x5, x0, x1] h =
 (evIa 2 [x0, x5]).bind fun v0 =>
 (evLd 2 h [v0]).bind fun v1 =>
 (evIa 2 [x1, x5]).bind fun v2 =>
 (evLd 2 h [v2]).bind fun v3 =>
 (evEqa true [0, 0] [v1, v3]).bind fun v4 =>
 condR (
 some ((.b false), h)) (
 jj cf 27 3 [x5, x0, x1] h) v4 :=
 (jj_eq ok27 cf 4 _ h).trans (by kernel_rfl)
/- join -/
theorem r27_3 (cf : CallF) (x5 x0 x1 : IV) (h : Hp) : jj cf 27 3 [x5, x0, x1] h =
 (evBin .add [x5, (.i .i64 1)]).bind fun v0 =>
 jj cf 27 2 [x0, x1, v0] h :=
 (jj_eq ok27 cf 3 _ h).trans (by kernel_rfl)

/- 28 floodgate/floodgateref09.Less: 2 parameters -/
theorem ok28 : okk 28 = true := by kernel_rfl
theorem r28 (cf : CallF) (a0 a1 : IV) (h : Hp) : xx cf 28 [a0, a1] h =
 bl (.p (h).next 0) ((h).new (.cells (lenN (IV.cells a0)) (IV.cells a0))) fun v0 h1 =>
 bl (.p (h1).next 0) ((h1).new (.cells (lenN (IV.cells a1)) (IV.cells a1))) fun v2 h3 =>
 jj cf 28 3 [(.i .i64 0), v0, v2] h3 := by kernel_rfl
/- join -/
theorem r28_2 (cf : CallF) (x2 x3 : IV) (h : Hp) : jj cf 28 2 [x2, x3] h =
 (evFa 0 [x2]).bind fun v0 =>
 (evLd1 h [v0]).bind fun v1 =>
 (evLens [v1]).bind fun v2 =>
 (evFa 0 [x3]).bind fun v3 =>
 (evLd1 h [v3]).bind fun v4 =>
 (evLens [v4]).bind fun v5 =>
 (evBin .neq [v2, v5]).bind fun v6 =>
 condR (
 (evFa 0 [x2]).bind fun v7 =>
 (evLd1 h [v7]).bind fun v8 =>
 (evLens [v8]).bind fun v9 =>
 (evFa 0 [x3]).bind fun v10 =>
 (evLd1 h [v10]).bind fun v11 =>
 (evLens [v11]).bind fun v12 =>
 (evBin .lss [v9, v12]).bind fun v13 =>
 some (v13, h)) (
 jj cf 28 1 [x2, x3] h) v6 :=
 (jj_eq ok28 cf 2 _ h).trans (by kernel_rfl)
/- loop -/
theorem r28_3 (cf : CallF) (x5 x2 x3 : IV) (h : Hp) : jj cf 28 3 [x5, x2, x3] h =
 (evFa 0 [x2]).bind fun v0 =>
 (evLd1 h [v0]).bind fun v1 =>
 (evLens [v1]).bind fun v2 =>
 (evBin .lss [x5, v2]).bind fun v3 =>
 (cond (wantV true v3) (some x5) (some undefd)).bind fun v4 =>
 (cond (wantV true v3) (evFa 0 [x3]) (some undefd)).bind fun v5 =>
 (cond (wantV true v3) (evLd1 h [v5]) (some undefd)).bind fun v6 =>
 (cond (wantV true v3) (evLens [v6]) (some undefd)).bind fun v7 =>
 (cond (wantV true v3) (evBin .lss [v4, v7]) (some undefd)).bind fun v8 =>
 (evPick [v3, v8, (.b false)]).bind fun v9 =>
 condR (
 jj cf 28 6 [x5, x2, x3] h) (
 jj cf 28 2 [x2, x3] h) v9 :=
 (jj_eq ok28 cf 3 _ h).trans (by kernel_rfl)
/- join -/
theorem r28_6 (cf : CallF) (x5 x2 x3 : IV) (h : Hp) : jj cf 28 6 [x5, x2, x3] h =
 (evFa 0 [x2]).bind fun v0 =>
 (evLd1 h [v0]).bind fun v1 =>
 (evIa 2 [v1, x5]).bind fun v2 =>
 (evLd 2 h [v2]).bind fun v3 =>
 (evFa 0 [x3]).bind fun v4 =>
 (evLd1 h [v4]).bind fun v5 =>
 (evIa 2 [v5, x5]).bind fun v6 =>
 (evLd 2 h [v6]).bind fun v7 =>
 bl (.p (h).next 0) ((h).new (.cells 2 [(.i .i64 0), (.i .i64 0)])) fun v8 h9 =>
 bl (.p (h9).next 0) ((h9).new (.cells 2 [(.i .i64 0), (.i .i64 0)])) fun v10 h11 =>
 (efSt 2 h11 [v8, v3]).bind fun p12 =>
 cond (cond (sameLook (.ld 2) [v6] p12.2 v7) (cond (sameLook .ld1 [v4] p12.2 v5) true false) false) (
 (efSt 2 p12.2 [v10, v7]).bind fun p13 =>
 (evFa 0 [v8]).bind fun v14 =>
 (evLd1 p13.2 [v14]).bind fun v15 =>
 (evFa 0 [v10]).bind fun v16 =>
 (evLd1 p13.2 [v16]).bind fun v17 =>
 (evBin .neq [v15, v17]).bind fun v18 =>
 condR (
 (evFa 0 [v8]).bind fun v19 =>
 (evLd1 p13.2 [v19]).bind fun v20 =>
 (evFa 0 [v10]).bind fun v21 =>
 (evLd1 p13.2 [v21]).bind fun v22 =>
 (evBin .lss [v20, v22]).bind fun v23 =>
 some (v23, p13.2)) (
 jj cf 28 5 [v8, v10, x5, x2, x3] p13.2) v18) none :=
 (jj_eq ok28 cf 6 _ h).trans (by kernel_rfl)
/- join -/
theorem r28_4 (cf : CallF) (x5 x2 x3 : IV) (h : Hp) : jj cf 28 4 [x5, x2, x3] h =
 (evBin .add [x5, (.i .i64 1)]).bind fun v0 =>
 jj cf 28 3 [v0, x2, x3] h :=
 (jj_eq ok28 cf 4 _ h).trans (by kernel_rfl)
/- join -/
theorem r28_5 (cf : CallF) (x6 x7 x5 x2 x3 : IV) (h : Hp) : jj cf 28 5 [x6, x7, x5, x2, x3] h =
 (evFa 1 [x6]).bind fun v0 =>
 (evLd1 h [v0]).bind fun v1 =>
 (evFa 1 [x7]).bind fun v2 =>
 (evLd1 h [v2]).bind fun v3 =>
 (evBin .neq [v1, v3]).bind fun v4 =>
 condR (
 (evFa 1 [x6]).bind fun v5 =>
 (evLd1 h [v5]).bind fun v6 =>
 (evFa 1 [x7]).bind fun v7 =>
 (evLd1 h [v7]).bind fun v8 =>
 (evBin .lss [v6, v8]).bind fun v9 =>
 some (v9, h)) (
 jj cf 28 4 [x5, x2, x3] h) v4 :=
 (jj_eq ok28 cf 5 _ h).trans (by kernel_rfl)
/- join -/
theorem r28_1 (cf : CallF) (x2 x3 : IV) (h : Hp) : jj cf 28 1 [x2, x3] h =
 (evFa 1 [x2]).bind fun v0 =>
 (evLd1 h [v0]).bind fun v1 =>
 (evFa 1 [x3]).bind fun v2 =>
 (evLd1 h [v2]).bind fun v3 =>
 (evBin .lss [v1, v3]).bind fun v4 =>
 some (v4, h) :=
 (jj_eq ok28 cf 1 _ h).trans (by kernel_rfl)

/- 46 slices.CompareFunc[[]floodgate/api.Hop,[]floodgate/api.Hop,floodgate/api.Hop,floodgate/api.Hop]: 3 parameters -/
theorem ok46 : okk 46 = true := by kernel_rfl
theorem r46 (cf : CallF) (a0 a1 a2 : IV) (h : Hp) : xx cf 46 [a0, a1, a2] h =
 (evLens [a0]).bind fun v0 =>
 jj cf 46 3 [v0, a0, a2, (.i .i64 0), a0, a1] h := by kernel_rfl
/- join -/
theorem r46_2 (cf : CallF) (x0 x1 : IV) (h : Hp) : jj cf 46 2 [x0, x1] h =
 (evLens [x0]).bind fun v0 =>
 (evLens [x1]).bind fun v1 =>
 (evBin .lss [v0, v1]).bind fun v2 =>
 condR (
 some ((.i .i64 (-1)), h)) (
 jj cf 46 1 [] h) v2 :=
 (jj_eq ok46 cf 2 _ h).trans (by kernel_rfl)
/- loop -/
theorem r46_3 (cf : CallF) (x12 x11 x2 x13 x0 x1 : IV) (h : Hp) : jj cf 46 3 [x12, x11, x2, x13, x0, x1] h =
 (evBin .lss [x13, x12]).bind fun v0 =>
 condR (
 jj cf 46 6 [x13, x12, x11, x2, x0, x1] h) (
 jj cf 46 2 [x0, x1] h) v0 :=
 (jj_eq ok46 cf 3 _ h).trans (by kernel_rfl)
/- join -/
theorem r46_6 (cf : CallF) (x13 x12 x11 x2 x0 x1 : IV) (h : Hp) : jj cf 46 6 [x13, x12, x11, x2, x0, x1] h =
 (evIa 2 [x11, x13]).bind fun v0 =>
 (evLd 2 h [v0]).bind fun v1 =>
 bl (.p (h).next 0) ((h).new (.cells 2 [(.i .i64 0), (.i .i64 0)])) fun v2 h3 =>
 (efSt 2 h3 [v2, v1]).bind fun p4 =>
 (evLens [x1]).bind fun v5 =>
 (evBin .geq [x13, v5]).bind fun v6 =>
 condR (
 some ((.i .i64 1), p4.2)) (
 jj cf 46 5 [x13, v2, x13, x12, x11, x2, x0, x1] p4.2) v6 :=
 (jj_eq ok46 cf 6 _ h).trans (by kernel_rfl)
/- join -/
theorem r46_4 (cf : CallF) (x13 x12 x11 x2 x0 x1 : IV) (h : Hp) : jj cf 46 4 [x13, x12, x11, x2, x0, x1] h =
 (evBin .add [x13, (.i .i64 1)]).bind fun v0 =>
 jj cf 46 3 [x12, x11, x2, v0, x0, x1] h :=
 (jj_eq ok46 cf 4 _ h).trans (by kernel_rfl)
/- join -/
theorem r46_5 (cf : CallF) (x7 x8 x13 x12 x11 x2 x0 x1 : IV) (h : Hp) : jj cf 46 5 [x7, x8, x13, x12, x11, x2, x0, x1] h =
 (evIa 2 [x1, x7]).bind fun v0 =>
 (evLd 2 h [v0]).bind fun v1 =>
 bl (.p (h).next 0) ((h).new (.cells 2 [(.i .i64 0), (.i .i64 0)])) fun v2 h3 =>
 (efSt 2 h3 [v2, v1]).bind fun p4 =>
 (evLd 2 p4.2 [x8]).bind fun v5 =>
 (evLd 2 p4.2 [v2]).bind fun v6 =>
 (exCall cf x2 [v5, v6] p4.2).bind fun p7 =>
 (evBin .neq [p7.1, (.i .i64 0)]).bind fun v8 =>
 condR (
 some (p7.1, p7.2)) (
 jj cf 46 4 [x13, x12, x11, x2, x0, x1] p7.2) v8 :=
 (jj_eq ok46 cf 5 _ h).trans (by kernel_rfl)
/- join -/
theorem r46_1 (cf : CallF) (h : Hp) : jj cf 46 1 [] h =
 some ((.i .i64 0), h) :=
 (jj_eq ok46 cf 1 _ h).trans (by kernel_rfl)

/- 47 floodgate/wait.compare$1: 2 parameters -/
theorem ok47 : okk 47 = true := by kernel_rfl
theorem r47 (cf : CallF) (a0 a1 : IV) (h : Hp) : xx cf 47 [a0, a1] h =
 bl (.p (h).next 0) ((h).new (.cells (lenN (IV.cells a0)) (IV.cells a0))) fun v0 h1 =>
 bl (.p (h1).next 0) ((h1).new (.cells (lenN (IV.cells a1)) (IV.cells a1))) fun v2 h3 =>
 (evFa 0 [v0]).bind fun v4 =>
 (evLd1 h3 [v4]).bind fun v5 =>
 (evFa 0 [v2]).bind fun v6 =>
 (evLd1 h3 [v6]).bind fun v7 =>
 (cf (pos 49) [v5, v7] h3).bind fun p8 =>
 (evFa 1 [v0]).bind fun v9 =>
 (evLd1 p8.2 [v9]).bind fun v10 =>
 cond (cond (sameLook .ld1 [v9] h3 v10) true false) (
 (evFa 1 [v2]).bind fun v11 =>
 (evLd1 p8.2 [v11]).bind fun v12 =>
 cond (cond (sameLook .ld1 [v11] h3 v12) true false) (
 (cf (pos 49) [v10, v12] p8.2).bind fun p13 =>
 (alRows 2 1 (p13.2).next [p8.1, p13.1]).bind fun p14 =>
 (cf (pos 48) [p14.2] (Hp.new p13.2 p14.1)).bind fun p15 =>
 some (p15.1, p15.2)) none) none := by kernel_rfl

/- 48 cmp.Or[int]: 1 parameters -/
theorem ok48 : okk 48 = true := by kernel_rfl
theorem r48 (cf : CallF) (a0 : IV) (h : Hp) : xx cf 48 [a0] h =
 (evLens [a0]).bind fun v0 =>
 jj cf 48 2 [v0, a0, (.i .i64 0), (.i .i64 0)] h := by kernel_rfl
/- join -/
theorem r48_1 (cf : CallF) (x3 : IV) (h : Hp) : jj cf 48 1 [x3] h =
 some (x3, h) :=
 (jj_eq ok48 cf 1 _ h).trans (by kernel_rfl)
/- loop -/
theorem r48_2 (cf : CallF) (x7 x6 x8 x3 : IV) (h : Hp) : jj cf 48 2 [x7, x6, x8, x3] h =
 (evBin .lss [x8, x7]).bind fun v0 =>
 condR (
 jj cf 48 4 [x8, x7, x6, x3] h) (
 jj cf 48 1 [x3] h) v0 :=
 (jj_eq ok48 cf 2 _ h).trans (by kernel_rfl)
/- join -/
theorem r48_4 (cf : CallF) (x8 x7 x6 x3 : IV) (h : Hp) : jj cf 48 4 [x8, x7, x6, x3] h =
 (evIa 1 [x6, x8]).bind fun v0 =>
 (evLd1 h [v0]).bind fun v1 =>
 (evBin .neq [v1, x3]).bind fun v2 =>
 condR (
 some (v1, h)) (
 jj cf 48 3 [x8, x7, x6, x3] h) v2 :=
 (jj_eq ok48 cf 4 _ h).trans (by kernel_rfl)
/- join -/
theorem r48_3 (cf : CallF) (x8 x7 x6 x3 : IV) (h : Hp) : jj cf 48 3 [x8, x7, x6, x3] h =
 (evBin .add [x8, (.i .i64 1)]).bind fun v0 =>
 jj cf 48 2 [x7, x6, v0, x3] h :=
 (jj_eq ok48 cf 3 _ h).trans (by kernel_rfl)

/- 49 cmp.Compare[int]: 2 parameters -/
theorem ok49 : okk 49 = true := by kernel_rfl
theorem r49 (cf : CallF) (a0 a1 : IV) (h : Hp) : xx cf 49 [a0, a1] h =
 (cf (pos 68) [a0] h).bind fun p0 =>
 (cf (pos 68) [a1] p0.2).bind fun p1 =>
 condR (
 condR (
 some ((.i .i64 0), p1.2)) (
 jj cf 49 5 [] p1.2) p1.1) (
 jj cf 49 4 [p1.1, a0, a1] p1.2) p0.1 := by kernel_rfl
/- join -/
theorem r49_4 (cf : CallF) (x6 x0 x1 : IV) (h : Hp) : jj cf 49 4 [x6, x0, x1] h =
 condR (
 some ((.i .i64 1), h)) (
 jj cf 49 3 [x0, x1] h) x6 :=
 (jj_eq ok49 cf 4 _ h).trans (by kernel_rfl)
/- join -/
theorem r49_5 (cf : CallF) (h : Hp) : jj cf 49 5 [] h =
 some ((.i .i64 (-1)), h) :=
 (jj_eq ok49 cf 5 _ h).trans (by kernel_rfl)
/- join -/
theorem r49_3 (cf : CallF) (x0 x1 : IV) (h : Hp) : jj cf 49 3 [x0, x1] h =
 (evBin .lss [x0, x1]).bind fun v0 =>
 condR (
 some ((.i .i64 (-1)), h)) (
 jj cf 49 2 [x0, x1] h) v0 :=
 (jj_eq ok49 cf 3 _ h).trans (by kernel_rfl)
/- join -/
theorem r49_2 (cf : CallF) (x0 x1 : IV) (h : Hp) : jj cf 49 2 [x0, x1] h =
 (evBin .gtr [x0, x1]).bind fun v0 =>
 condR (
 some ((.i .i64 1), h)) (
 jj cf 49 1 [] h) v0 :=
 (jj_eq ok49 cf 2 _ h).trans (by kernel_rfl)
/- join -/
theorem r49_1 (cf : CallF) (h : Hp) : jj cf 49 1 [] h =
 some ((.i .i64 0), h) :=
 (jj_eq ok49 cf 1 _ h).trans (by kernel_rfl)

/- 50 cmp.Compare[uint8]: 2 parameters -/
theorem ok50 : okk 50 = true := by kernel_rfl
theorem r50 (cf : CallF) (a0 a1 : IV) (h : Hp) : xx cf 50 [a0, a1] h =
 (cf (pos 69) [a0] h).bind fun p0 =>
 (cf (pos 69) [a1] p0.2).bind fun p1 =>
 condR (
 condR (
 some ((.i .i64 0), p1.2)) (
 jj cf 50 5 [] p1.2) p1.1) (
 jj cf 50 4 [p1.1, a0, a1] p1.2) p0.1 := by kernel_rfl
/- join -/
theorem r50_4 (cf : CallF) (x6 x0 x1 : IV) (h : Hp) : jj cf 50 4 [x6, x0, x1] h =
 condR (
 some ((.i .i64 1), h)) (
 jj cf 50 3 [x0, x1] h) x6 :=
 (jj_eq ok50 cf 4 _ h).trans (by kernel_rfl)
/- join -/
theorem r50_5 (cf : CallF) (h : Hp) : jj cf 50 5 [] h =
 some ((.i .i64 (-1)), h) :=
 (jj_eq ok50 cf 5 _ h).trans (by kernel_rfl)
/- join -/
theorem r50_3 (cf : CallF) (x0 x1 : IV) (h : Hp) : jj cf 50 3 [x0, x1] h =
 (evBin .lss [x0, x1]).bind fun v0 =>
 condR (
 some ((.i .i64 (-1)), h)) (
 jj cf 50 2 [x0, x1] h) v0 :=
 (jj_eq ok50 cf 3 _ h).trans (by kernel_rfl)
/- join -/
theorem r50_2 (cf : CallF) (x0 x1 : IV) (h : Hp) : jj cf 50 2 [x0, x1] h =
 (evBin .gtr [x0, x1]).bind fun v0 =>
 condR (
 some ((.i .i64 1), h)) (
 jj cf 50 1 [] h) v0 :=
 (jj_eq ok50 cf 2 _ h).trans (by kernel_rfl)
/- join -/
theorem r50_1 (cf : CallF) (h : Hp) : jj cf 50 1 [] h =
 some ((.i .i64 0), h) :=
 (jj_eq ok50 cf 1 _ h).trans (by kernel_rfl)

/- 68 cmp.isNaN[int]: 1 parameters -/
theorem ok68 : okk 68 = true := by kernel_rfl
theorem r68 (cf : CallF) (a0 : IV) (h : Hp) : xx cf 68 [a0] h =
 (evBin .neq [a0, a0]).bind fun v0 =>
 some (v0, h) := by kernel_rfl

/- 69 cmp.isNaN[uint8]: 1 parameters -/
theorem ok69 : okk 69 = true := by kernel_rfl
theorem r69 (cf : CallF) (a0 : IV) (h : Hp) : xx cf 69 [a0] h =
 (evBin .neq [a0, a0]).bind fun v0 =>
 some (v0, h) := by kernel_rfl

end Go.Proofs.YtgboonfbfapaaaaGreat
/- Contracts: comparing. -/


namespace Go.Proofs.YtgboonfbfapaaaaGreat
open Go.Fg

/-- What a function gives at arguments that are held by contents, or come to be. -/
def Gives (k : Nat) (args : List IV) (r : IV) : Prop := ∀ h args0 h1, frzs h args0 = some (args, h1) → W9 (pos k) args0 h = some (r, h1)
noncomputable def sameO (o : Option IV) (v : IV) : Bool := match o with | some u => beqV u v | none => false
theorem peq_self : ∀ p : Pos, Pos.eq p p = true
  | .h => rfl
  | .o p => peq_self p
  | .i p => peq_self p
theorem nbeq_self (n : Nat) : Nat.beq n n = true := Nat.beq_refl n
mutual
theorem bd_self : ∀ v : IV, beqDeep v v = true
  | .b x => beq_self_eq_true x
  | .i k x => by unfold beqDeep; rw [(kEq_iff k k).2 rfl, ieq_eq]; simp
  | .s x => by unfold beqDeep; rw [seq_eq]; simp
  | .p x n => by unfold beqDeep; rw [peq_self, nbeq_self]; rfl
  | .pn => rfl
  | .sl x a b c d => by unfold beqDeep; simp only [peq_self, nbeq_self, Bool.and_self]
  | .sn => rfl
  | .m x => peq_self x
  | .mn => rfl
  | .f x l => by unfold beqDeep; rw [peq_self, bds_self l]; rfl
  | .fn => rfl
  | .agg l => bds_self l
  | .tup l => bds_self l
  | .ic n v => by unfold beqDeep; rw [nbeq_self, bd_self v]; rfl
  | .inn => rfl
  | .pi l => bds_self l
  | .sli l => bdss_self l
  | .mi l m => by unfold beqDeep; rw [bds_self l, bds_self m]; rfl
theorem bds_self : ∀ l : List IV, beqDeeps l l = true
  | [] => rfl
  | v :: l => by unfold beqDeeps; rw [bd_self v, bds_self l]; rfl
theorem bdss_self : ∀ l : List (List IV), beqDeepss l l = true
  | [] => rfl
  | v :: l => by unfold beqDeepss; rw [bds_self v, bdss_self l]; rfl
end
theorem bf_self (v : IV) : beqFlat v v = true := by
  have h := bd_self v
  cases v <;> first | exact h | (unfold beqFlat; simp only [peq_self, nbeq_self, ieq_eq, seq_eq, (kEq_iff _ _).2 rfl, beq_self_eq_true]; rfl)
theorem bfs_self : ∀ l : List IV, beqFlats l l = true
  | [] => rfl
  | v :: l => by
    show cond (beqFlat v v) (beqFlats l l) false = true
    rw [bf_self, bfs_self l]; rfl
theorem beqV_self (v : IV) : beqV v v = true := by
  have h := bf_self v
  cases v <;> first | exact h | exact bfs_self _
@[simp] theorem sameO_self (v : IV) : sameO (some v) v = true := beqV_self v
@[simp] theorem sameLook_ld1 (xs : List IV) (h : Hp) (v : IV) : sameLook .ld1 xs h v = sameO (evLd1 h xs) v := rfl
@[simp] theorem sameLook_ld (n : Nat) (xs : List IV) (h : Hp) (v : IV) : sameLook (.ld n) xs h v = sameO (evLd n h xs) v := rfl
@[simp] theorem seenAgain_nil (b : Nat) (h : Hp) : seenAgain b h [] = true := rfl
@[simp] theorem seenAgain_cons (b : Nat) (h : Hp) (n : Nat) (r : Rd) (xs : List IV) (v : IV) (l : List Seen) : seenAgain b h (⟨n, r, xs, v⟩ :: l) = cond (cond (Nat.testBit b n) true (sameLook r xs h v)) (seenAgain b h l) false := rfl
@[simp] theorem consIf_true {α : Type} (x : α) (l : List α) : consIf true x l = x :: l := rfl
@[simp] theorem consIf_false {α : Type} (x : α) (l : List α) : consIf false x l = l := rfl
@[simp] theorem seenBefore_nil (b : Nat) (r : Rd) (xs : List IV) (v : IV) : seenBefore b r xs v [] = true := rfl
@[simp] theorem seenBefore_cons (b : Nat) (r : Rd) (xs : List IV) (v : IV) (n : Nat) (h : Hp) (l : List (Nat × Hp)) : seenBefore b r xs v ((n, h) :: l) = cond (cond (Nat.testBit b n) true (sameLook r xs h v)) (seenBefore b r xs v l) false := rfl
def imm : IV → Bool
  | .agg l | .f _ l | .tup l => l.all Im
  | v => Im v
theorem frz_im1 {v : IV} (hv : Im v = true) (h : Hp) : frz h v = some (v, h) := frzF_im 39 h hv
theorem frz_imm {v : IV} (hv : imm v = true) (h : Hp) : frz h v = some (v, h) := by
  cases v <;> first | exact frz_agg hv | exact frz_f hv | exact frz_tup hv | (refine frz_im1 ?_ h; exact hv)
theorem frzs_imm : ∀ {l : List IV} (hl : l.all imm = true) (h : Hp), frzs h l = some (l, h)
  | [], _, h => frzs_nil h
  | v :: l, hl, h => by
    rw [List.all_cons, Bool.and_eq_true] at hl
    rw [frzs_cons, frz_imm hl.1]
    simp [frzs_imm hl.2]
theorem gives_of {k : Nat} {args : List IV} {r : IV} (ok : okk k = true) (hi : imp9 (pos k) = false) (hr : imm r = true) (e : ∃ h2, xx W9 k args Hp.empty = some (r, h2)) : Gives k args r := fun h args0 h1 e0 => by
  obtain ⟨h2, e⟩ := e
  exact call9 ok hi e0 e (frz_imm hr h2)
theorem Gives.at {k : Nat} {args : List IV} {r : IV} (g : Gives k args r) (ha : args.all imm = true) (h : Hp) : W9 (pos k) args h = some (r, h) := g h args h (frzs_imm ha h)

def cmpI (a b : Int) : Int := if a < b then -1 else if b < a then 1 else 0
def orI (a b : Int) : Int := if a ≠ 0 then a else b
theorem g68 (a : Int) : Gives 68 [int a] (.b false) := gives_of ok68 rfl rfl ⟨Hp.empty, by rw [r68]; simp [int]⟩
theorem g49 (a b : Int) : Gives 49 [int a, int b] (int (cmpI a b)) := gives_of ok49 rfl rfl ⟨Hp.empty, by
  have e1 := (g68 a).at rfl
  have e2 := (g68 b).at rfl
  unfold int at e1 e2
  rw [r49]
  simp [int, e1, e2, r49_4, r49_3, r49_2, r49_1, cmpI]
  by_cases c : a < b <;> by_cases d : b < a <;> simp [c, d]⟩
theorem g48 (a b : Int) : Gives 48 [.sli [[int a], [int b]]] (int (orI a b)) := gives_of ok48 rfl rfl ⟨Hp.empty, by
  rw [r48]
  have i0 : evIa 1 [.sli [[int a], [int b]], .i .i64 0] = some (.pi [int a]) := evIa_sli (i := 0) rfl rfl
  have i1 : evIa 1 [.sli [[int a], [int b]], .i .i64 1] = some (.pi [int b]) := evIa_sli (i := 1) rfl rfl
  have w1 : IntKind.wrap .i64 1 = 1 := rfl
  have w2 : IntKind.wrap .i64 2 = 2 := rfl
  unfold int at *
  rw [evLens_sli, Option.bind_some, r48_2]
  simp [r48_4, r48_3, r48_1, i0, w1, w2, orI]
  by_cases c : a = 0
  · subst c
    simp only [if_true]
    rw [r48_2]
    simp [r48_4, r48_3, r48_1, i1, w1, w2]
    by_cases d : b = 0
    · subst d
      simp only [if_true]
      rw [r48_2]
      simp [r48_1]
    · simp [d]
  · simp [c]⟩
theorem e48 (a b : Int) {h : Hp} {p : Pos} (hp : h.get p = some (.cells 2 [int a, int b])) : W9 (pos 48) [.sl p 0 2 3 1] h = some (int (orI a b), h.set p (.rc 2 [int a, int b])) :=
  g48 a b h _ _ (by rw [frzs_cons, frz_sl (m := 2) (l := [int a, int b]) (by rw [hp]; rfl) (by decide) (by decide) rfl]; rfl)
theorem al21 (id : Pos) (a b : Int) : alRows 2 1 id [.i .i64 a, .i .i64 b] = some (.cells 2 [.i .i64 a, .i .i64 b], .sl id 0 2 3 1) := rfl
def cmpH (x y : Hop) : Int := orI (cmpI x.node y.node) (cmpI x.turn y.turn)
theorem g47 (x y : Hop) : Gives 47 [.agg x.c, .agg y.c] (int (cmpH x y)) := gives_of ok47 rfl rfl (by
  have e1 := (g49 x.node y.node).at rfl
  have e2 := (g49 x.turn y.turn).at rfl
  have e3 := fun (h : Hp) (p : Pos) hp => e48 (cmpI x.node y.node) (cmpI x.turn y.turn) (h := h) (p := p) hp
  unfold int at e1 e2 e3
  rw [r47]
  simp [int, Hop.c, e1, e2, al21, e3, cmpH])
end Go.Proofs.YtgboonfbfapaaaaGreat
/- Contracts: comparing paths and waits. -/


namespace Go.Proofs.YtgboonfbfapaaaaGreat
open Go.Fg

@[simp] theorem ne_nxt (p : Pos) : (p = p.nxt) = False := eq_false fun e => by have := congrArg Pos.num e; rw [Pos.num_nxt] at this; omega
@[simp] theorem nxt_ne (p : Pos) : (p.nxt = p) = False := eq_false fun e => by have := congrArg Pos.num e; rw [Pos.num_nxt] at this; omega
@[simp] theorem ne_nxt2 (p : Pos) : (p = p.nxt.nxt) = False := eq_false fun e => by have := congrArg Pos.num e; rw [Pos.num_nxt, Pos.num_nxt] at this; omega
@[simp] theorem nxt2_ne (p : Pos) : (p.nxt.nxt = p) = False := eq_false fun e => by have := congrArg Pos.num e; rw [Pos.num_nxt, Pos.num_nxt] at this; omega
theorem efSt_new {n : Nat} {h : Hp} {p : Pos} {z l : List IV} (hp : p = h.next) (hl : l.length = n) (ha : allAtoms l = true) : efSt n (h.new (.cells n z)) [.p p 0, .agg l] = some (undefd, (h.new (.cells n z)).set p (.cells n l)) := by
  subst hp
  show cond (cond (Nat.beq (lenN l) n) (allAtoms l) false) (match (h.new (.cells n z)).write h.next 0 n l with | some h' => some (undefd, h') | none => none) none = _
  rw [lenN_eq, hl, Nat.beq_refl, ha, write_eq (m := n) (l := z) (by simp)]
  simp
def cmpL : List Hop → List Hop → Int
  | [], [] => 0
  | [], _ :: _ => -1
  | _ :: _, [] => 1
  | x :: xs, y :: ys => if cmpH x y ≠ 0 then cmpH x y else cmpL xs ys
theorem ex_at {α : Type} {l : List α} {i : Nat} (h : i < l.length) : ∃ x, l[i]? = some x ∧ l.drop i = x :: l.drop (i + 1) := ⟨l[i], by simp [h], by rw [List.drop_eq_getElem_cons h]⟩
theorem wrap1 {i : Nat} (h : i < 1000000000) : IntKind.wrap .i64 ((i : Int) + 1) = ((i + 1 : Nat) : Int) := by rw [wrap64 (by omega) (by omega)]; rfl

theorem loop46 (xs ys : List Hop) (hx : xs.length < 1000000000) : ∀ n i (h : Hp), xs.length - i = n → i ≤ xs.length → i ≤ ys.length →
    ∃ h', jj W9 46 3 [int xs.length, sl Hop.c xs, .f (pos 47) [], int i, sl Hop.c xs, sl Hop.c ys] h = some (int (cmpL (xs.drop i) (ys.drop i)), h') := by
  intro n
  induction n with
  | zero =>
    intro i h hi hle hle2
    have : i = xs.length := by omega
    subst this
    rw [r46_3]
    simp only [int, evBin_lss, Option.bind_some, condR_eq, Int.lt_irrefl, decide_false, Bool.false_eq_true, if_false]
    rw [r46_2]
    simp only [sl_len, Option.bind_some, evBin_lss, condR_eq, decide_eq_true_eq]
    rw [List.drop_length]
    by_cases c : xs.length < ys.length
    · obtain ⟨y, _, e⟩ := ex_at c
      rw [e, if_pos (by omega)]
      exact ⟨h, rfl⟩
    · have : ys.length = xs.length := by omega
      rw [if_neg (by omega), r46_1, ← this, List.drop_length]
      exact ⟨h, rfl⟩
  | succ n ih =>
    intro i h hi hle hle2
    have hlt : i < xs.length := by omega
    obtain ⟨x, hx1, hx2⟩ := ex_at hlt
    have e1 := sl_ia (f := Hop.c) (z := 2) (k := .i64) hx1 rfl
    rw [r46_3]
    have hlt' : (i : Int) < xs.length := by omega
    simp only [int, evBin_lss, Option.bind_some, condR_eq, hlt', decide_true, if_true]
    rw [r46_6, e1]
    have st := fun (h : Hp) (x : Hop) (p : Pos) (hp : p = h.next) => efSt_new (n := 2) (h := h) (z := [.i .i64 0, .i .i64 0]) (l := x.c) hp rfl rfl
    have ld : ∀ (h : Hp) (x : Hop), evLd 2 h [.pi x.c] = some (.agg x.c) := fun _ _ => rfl
    simp only [Option.bind_some, ld, bl_eq, st, sl_len, evBin_geq, condR_eq, decide_eq_true_eq]
    by_cases c : (ys.length : Int) ≤ i
    · rw [if_pos c, hx2, show ys.drop i = [] from List.drop_eq_nil_of_le (by omega)]
      exact ⟨_, rfl⟩
    · rw [if_neg c]
      have hlt2 : i < ys.length := by omega
      obtain ⟨y, hy1, hy2⟩ := ex_at hlt2
      have e2 := sl_ia (f := Hop.c) (z := 2) (k := .i64) hy1 rfl
      rw [r46_5, e2]
      have g := (g47 x y).at rfl
      have st2 := st ((h.new (.cells 2 [.i .i64 0, .i .i64 0])).set h.next (.cells 2 x.c)) y h.next.nxt rfl
      simp only [Option.bind_some, ld, bl_eq, Hp.next_set, Hp.next_new, st2, evLd_p, read_set, Hp.next_set, Hp.next_new, read_new, if_true, Nat.zero_add, Nat.le_refl, ne_nxt, if_false, Option.map_some, exCall_f, List.append_nil, g, int, evBin_neq, condR_eq]
      by_cases d : cmpH x y = 0
      · simp only [d, decide_true, Bool.not_true, Bool.false_eq_true, if_false]
        rw [r46_4]
        simp only [evBin_add, Option.bind_some, wrap1 (i := i) (by omega)]
        obtain ⟨h', e⟩ := ih (i + 1) _ (by omega) (by omega) (by omega)
        refine ⟨h', e.trans ?_⟩
        rw [hx2, hy2]
        simp [cmpL, d, int]
      · simp only [d, decide_false, Bool.not_false, if_true]
        have hc : cmpL (x :: xs.drop (i + 1)) (y :: ys.drop (i + 1)) = cmpH x y := by simp [cmpL, d]
        rw [hx2, hy2, hc]
        exact ⟨_, rfl⟩
theorem g46 (xs ys : List Hop) (hx : xs.length < 1000000000) : Gives 46 [sl Hop.c xs, sl Hop.c ys, .f (pos 47) []] (int (cmpL xs ys)) := gives_of ok46 rfl rfl (by
  obtain ⟨h', e⟩ := loop46 xs ys hx xs.length 0 Hp.empty (by omega) (by omega) (by omega)
  refine ⟨h', ?_⟩
  rw [r46, sl_len, Option.bind_some]
  exact e)
def cmpW (a b : Wait) : Int := orI (cmpL a.path b.path) (cmpI a.node b.node)
end Go.Proofs.YtgboonfbfapaaaaGreat
/- Contracts: the document's Less. -/


namespace Go.Proofs.YtgboonfbfapaaaaGreat
open Go.Fg

def lessM : List Hop → List Hop → Int → Int → Bool
  | x :: xs, y :: ys, m, n => if x.node ≠ y.node then decide (x.node < y.node) else if x.turn ≠ y.turn then decide (x.turn < y.turn) else lessM xs ys m n
  | [], [], m, n => decide (m < n)
  | [], _ :: _, _, _ => true
  | _ :: _, [], _, _ => false
theorem lessM_eq : ∀ (xs ys : List Hop) (m n : Int), lessM xs ys m n = decide (orI (cmpL xs ys) (cmpI m n) < 0)
  | [], [], m, n => by
    by_cases c : m < n <;> by_cases d : n < m <;> simp [lessM, cmpL, orI, cmpI, c, d]
  | [], _ :: _, m, n => by simp [lessM, cmpL, orI]
  | _ :: _, [], m, n => by simp [lessM, cmpL, orI]
  | x :: xs, y :: ys, m, n => by
    have ih := lessM_eq xs ys m n
    unfold lessM cmpL
    by_cases c : x.node = y.node
    · by_cases d : x.turn = y.turn
      · simp [c, d, cmpH, orI, cmpI]
        rw [ih]; simp only [orI, cmpI, ne_eq, ite_not]
      · by_cases e : x.turn < y.turn <;> by_cases f : y.turn < x.turn <;> simp [c, d, cmpH, orI, cmpI, e, f] <;> omega
    · by_cases e : x.node < y.node <;> by_cases f : y.node < x.node <;> simp [c, cmpH, orI, cmpI, e, f] <;> omega

theorem ne_of_num {p q : Pos} (h : p.num < q.num) : (p = q) = False := eq_false fun e => by rw [e] at h; omega
theorem ld1_of {h : Hp} {p : Pos} {n o : Nat} {l : List IV} (e : h.get p = some (.cells n l)) : evLd1 h [.p p o] = l[o]? := read1_eq (m := n) (by rw [e]; rfl) o

theorem efSt_full {n : Nat} {h : Hp} {p : Pos} {z l : List IV} (hb : h.get p = some (.cells n z)) (hl : l.length = n) (ha : allAtoms l = true) : efSt n h [.p p 0, .agg l] = some (undefd, h.set p (.cells n l)) := by
  show cond (cond (Nat.beq (lenN l) n) (allAtoms l) false) (match h.write p 0 n l with | some h' => some (undefd, h') | none => none) none = _
  rw [lenN_eq, hl, Nat.beq_refl, ha, write_eq (m := n) (l := z) (by rw [hb]; rfl)]
  simp
theorem loop28 (a b : Wait) (p q : Pos) (ha : a.path.length < 1000000000) : ∀ n i (h : Hp), a.path.length - i = n → i ≤ a.path.length → i ≤ b.path.length →
    h.get p = some (.cells 2 a.c) → h.get q = some (.cells 2 b.c) → p.num < h.next.num → q.num < h.next.num →
    ∃ h', jj W9 28 3 [int i, .p p 0, .p q 0] h = some (.b (lessM (a.path.drop i) (b.path.drop i) a.node b.node), h') := by
  -- the end of the loop
  have fin : ∀ i (h : Hp), i ≤ a.path.length → i ≤ b.path.length → (i = a.path.length ∨ i = b.path.length) → h.get p = some (.cells 2 a.c) → h.get q = some (.cells 2 b.c) →
      jj W9 28 2 [.p p 0, .p q 0] h = some (.b (lessM (a.path.drop i) (b.path.drop i) a.node b.node), h) := by
    intro i h h1 h2 h3 hp hq
    have a0 : evLd1 h [.p p 0] = some (sl Hop.c a.path) := ld1_of hp
    have a1 : evLd1 h [.p p 1] = some (.i .i64 a.node) := ld1_of hp
    have b0 : evLd1 h [.p q 0] = some (sl Hop.c b.path) := ld1_of hq
    have b1 : evLd1 h [.p q 1] = some (.i .i64 b.node) := ld1_of hq
    rw [r28_2]
    simp only [evFa_p, Nat.add_zero, Nat.zero_add, Option.bind_some, a0, b0, sl_len, evBin_neq, evBin_lss, condR_eq]
    by_cases c : a.path.length = b.path.length
    · have e1 : i = a.path.length := by omega
      have e2 : i = b.path.length := by omega
      have c' : (a.path.length : Int) = b.path.length := by omega
      simp only [c', decide_true, Bool.not_true, Bool.false_eq_true, if_false]
      rw [r28_1]
      simp only [evFa_p, Nat.add_zero, Nat.zero_add, Option.bind_some, a1, b1, evBin_lss]
      rw [show a.path.drop i = [] from by rw [e1, List.drop_length], show b.path.drop i = [] from by rw [e2, List.drop_length]]
      rfl
    · have c' : ¬ (a.path.length : Int) = b.path.length := by omega
      simp only [c', decide_false, Bool.not_false, if_true]
      rcases h3 with h3 | h3
      · obtain ⟨y, _, e⟩ := ex_at (l := b.path) (i := i) (by omega)
        rw [show a.path.drop i = [] from by rw [h3, List.drop_length], e]
        have : (a.path.length : Int) < b.path.length := by omega
        simp [this, lessM]
      · obtain ⟨y, _, e⟩ := ex_at (l := a.path) (i := i) (by omega)
        rw [show b.path.drop i = [] from by rw [h3, List.drop_length], e]
        have : ¬ (a.path.length : Int) < b.path.length := by omega
        simp [this, lessM]
  intro n
  induction n with
  | zero =>
    intro i h hi hle hle2 hp hq hpn hqn
    have a0 : evLd1 h [.p p 0] = some (sl Hop.c a.path) := ld1_of hp
    have b0 : evLd1 h [.p q 0] = some (sl Hop.c b.path) := ld1_of hq
    have : ¬ (i : Int) < a.path.length := by omega
    rw [r28_3]
    simp only [int, evFa_p, Nat.add_zero, Option.bind_some, a0, b0, sl_len, evBin_lss, this, decide_false, wantV_eq, Bool.false_beq, Bool.not_true, cond_false, evPick_eq, condR_eq, Bool.false_eq_true, if_false]
    exact ⟨h, fin i h hle hle2 (Or.inl (by omega)) hp hq⟩
  | succ n ih =>
    intro i h hi hle hle2 hp hq hpn hqn
    have a0 : ∀ {h : Hp}, h.get p = some (.cells 2 a.c) → evLd1 h [.p p 0] = some (sl Hop.c a.path) := fun hp => ld1_of hp
    have b0 : ∀ {h : Hp}, h.get q = some (.cells 2 b.c) → evLd1 h [.p q 0] = some (sl Hop.c b.path) := fun hq => ld1_of hq
    have hlt : (i : Int) < a.path.length := by omega
    rw [r28_3]
    simp only [int, evFa_p, Nat.add_zero, Option.bind_some, a0 hp, b0 hq, sl_len, evBin_lss, hlt, decide_true, wantV_eq, beq_self_eq_true, _root_.cond_true, evPick_eq, condR_eq]
    by_cases c : (i : Int) < b.path.length
    case neg =>
      simp only [c, decide_false, Bool.false_eq_true, if_false]
      exact ⟨h, fin i h hle hle2 (Or.inr (by omega)) hp hq⟩
    case pos =>
    simp only [c, decide_true, if_true]
    obtain ⟨x, hx1, hx2⟩ := ex_at (l := a.path) (i := i) (by omega)
    obtain ⟨y, hy1, hy2⟩ := ex_at (l := b.path) (i := i) (by omega)
    have e1 := sl_ia (f := Hop.c) (z := 2) (k := .i64) hx1 rfl
    have e2 := sl_ia (f := Hop.c) (z := 2) (k := .i64) hy1 rfl
    have ld : ∀ (h : Hp) (x : Hop), evLd 2 h [.pi x.c] = some (.agg x.c) := fun _ _ => rfl
    have np : (p = h.next) = False := ne_of_num hpn
    have nq : (q = h.next) = False := ne_of_num hqn
    have np' : (p = h.next.nxt) = False := ne_of_num (by rw [Pos.num_nxt]; omega)
    have nq' : (q = h.next.nxt) = False := ne_of_num (by rw [Pos.num_nxt]; omega)
    have s1 := efSt_full (n := 2) (h := (h.new (.cells 2 [.i .i64 0, .i .i64 0])).new (.cells 2 [.i .i64 0, .i .i64 0])) (p := h.next) (z := [.i .i64 0, .i .i64 0]) (l := x.c) (by simp) rfl rfl
    generalize hH3 : (((h.new (.cells 2 [.i .i64 0, .i .i64 0])).new (.cells 2 [.i .i64 0, .i .i64 0])).set h.next (.cells 2 x.c)) = H3 at s1
    have s2 := efSt_full (n := 2) (h := H3) (p := h.next.nxt) (z := [.i .i64 0, .i .i64 0]) (l := y.c) (by rw [← hH3]; simp) rfl rfl
    have q3 : H3.get q = some (.cells 2 b.c) := by rw [← hH3]; simp [nq, nq', hq]
    have n3 : H3.next = h.next.nxt.nxt := by rw [← hH3]; rfl
    generalize hH4 : H3.set h.next.nxt (.cells 2 y.c) = H4 at s2
    have p4 : H4.get p = some (.cells 2 a.c) := by rw [← hH4, ← hH3]; simp [np, np', hp]
    have q4 : H4.get q = some (.cells 2 b.c) := by rw [← hH4]; simp [nq', q3]
    have x4 : H4.get h.next = some (.cells 2 x.c) := by rw [← hH4, ← hH3]; simp
    have y4 : H4.get h.next.nxt = some (.cells 2 y.c) := by rw [← hH4]; simp
    have n4 : H4.next = h.next.nxt.nxt := by rw [← hH4]; exact n3
    have x40 : evLd1 H4 [.p h.next 0] = some (.i .i64 x.node) := ld1_of x4
    have x41 : evLd1 H4 [.p h.next 1] = some (.i .i64 x.turn) := ld1_of x4
    have y40 : evLd1 H4 [.p h.next.nxt 0] = some (.i .i64 y.node) := ld1_of y4
    have y41 : evLd1 H4 [.p h.next.nxt 1] = some (.i .i64 y.turn) := ld1_of y4
    rw [r28_6]
    simp only [evFa_p, Nat.add_zero, Nat.zero_add, Option.bind_some, a0 hp, b0 hq, e1, e2, ld, bl_eq, Hp.next_new, s1, sameLook_ld, sameLook_ld1, sameO_self, b0 q3, _root_.cond_true, s2, x40, y40, evBin_neq, evBin_lss, condR_eq, hx2, hy2]
    by_cases c : x.node = y.node
    case neg =>
      simp only [c, decide_false, Bool.not_false, if_true]
      exact ⟨_, by simp only [lessM, c, ne_eq, not_false_eq_true, if_true]; rfl⟩
    case pos =>
    simp only [c, decide_true, Bool.not_true, Bool.false_eq_true, if_false]
    rw [r28_5]
    simp only [evFa_p, Nat.add_zero, Nat.zero_add, Option.bind_some, x41, y41, evBin_neq, evBin_lss, condR_eq]
    by_cases d : x.turn = y.turn
    case neg =>
      simp only [d, decide_false, Bool.not_false, if_true]
      exact ⟨H4, by simp only [lessM, c, d, ne_eq, not_true_eq_false, not_false_eq_true, if_true, if_false]⟩
    case pos =>
    simp only [d, decide_true, Bool.not_true, Bool.false_eq_true, if_false]
    rw [r28_4]
    simp only [evBin_add, Option.bind_some, wrap1 (i := i) (by omega)]
    obtain ⟨h', e⟩ := ih (i + 1) H4 (by omega) (by omega) (by omega) p4 q4 (by rw [n4, Pos.num_nxt, Pos.num_nxt]; omega) (by rw [n4, Pos.num_nxt, Pos.num_nxt]; omega)
    refine ⟨h', e.trans ?_⟩
    simp only [lessM, c, d, ne_eq, not_true_eq_false, if_false]
theorem g28 (a b : Wait) (ha : a.path.length < 1000000000) : Gives 28 [.agg a.c, .agg b.c] (.b (decide (cmpW a b < 0))) := gives_of ok28 rfl rfl (by
  have := loop28 a b .h (.o .h) ha a.path.length 0 ((Hp.empty.new (.cells 2 a.c)).new (.cells 2 b.c)) (by omega) (by omega) (by omega) (by simp) (by simp) (by simp [Pos.num]) (by simp [Pos.num])
  obtain ⟨h', e⟩ := this
  refine ⟨h', ?_⟩
  rw [r28]
  simp only [List.drop_zero, lessM_eq] at e
  simp only [bl_eq, cells_agg, lenN_eq, Wait.c_len, Hp.next_new, empty_next, Pos.nxt_h]
  unfold cmpW
  unfold int at e
  exact e)
end Go.Proofs.YtgboonfbfapaaaaGreat
/- Contracts: comparing wants. -/
namespace Go.Proofs.YtgboonfbfapaaaaGreat
open Go.Fg

structure Want where
  kind : Int
  path : List Hop
  fn : Int
  fo : Int
  node : Int
  cell : Int
  inp : Int
  deriving DecidableEq
def Want.c (w : Want) : List IV := [.i .u8 w.kind, sl Hop.c w.path, .i .i64 w.fn, .i .i64 w.fo, .i .i64 w.node, .i .i64 w.cell, .i .i64 w.inp]
@[simp] theorem Want.c_len (w : Want) : w.c.length = 7 := rfl
theorem g69 (a : Int) : Gives 69 [.i .u8 a] (.b false) := gives_of ok69 rfl rfl ⟨Hp.empty, by rw [r69]; simp⟩
theorem g50 (a b : Int) : Gives 50 [.i .u8 a, .i .u8 b] (int (cmpI a b)) := gives_of ok50 rfl rfl ⟨Hp.empty, by
  have e1 := (g69 a).at rfl
  have e2 := (g69 b).at rfl
  rw [r50]
  simp [int, e1, e2, r50_4, r50_3, r50_2, r50_1, cmpI]
  by_cases c : a < b <;> by_cases d : b < a <;> simp [c, d]⟩
def orL : List Int → Int
  | [] => 0
  | x :: r => if x ≠ 0 then x else orL r
def one (x : Int) : List IV := [.i .i64 x]
theorem loop48 (l : List Int) (hl : l.length < 1000000000) (h : Hp) : ∀ n i, l.length - i = n → i ≤ l.length → jj W9 48 2 [.i .i64 (l.length : Int), sl one l, .i .i64 (i : Int), .i .i64 0] h = some (int (orL (l.drop i)), h) := by
  intro n
  induction n with
  | zero =>
    intro i h1 h2
    have e : i = l.length := by omega
    subst e
    rw [r48_2, evBin_lss, Option.bind_some, decide_eq_false (by omega), List.drop_length]
    simp only [condR_eq, Bool.false_eq_true, if_false]
    rw [r48_1]; rfl
  | succ n ih =>
    intro i h1 h2
    obtain ⟨x, hx, hd⟩ := ex_at (l := l) (i := i) (by omega)
    rw [r48_2, evBin_lss, Option.bind_some, decide_eq_true (by omega)]
    simp only [condR_eq, if_true]
    have ld : evLd1 h [.pi (one x)] = some (.i .i64 x) := rfl
    rw [r48_4, sl_ia (z := 1) hx rfl, Option.bind_some, ld, Option.bind_some, evBin_neq, Option.bind_some, hd]
    by_cases c : x = 0
    · simp only [c, decide_true, Bool.not_true, condR_eq, Bool.false_eq_true, if_false]
      rw [r48_3, evBin_add, Option.bind_some, wrap1 (by omega), ih (i + 1) (by omega) (by omega)]
      unfold orL
      rw [if_neg (by omega)]
      cases l.drop (i + 1) <;> rfl
    · simp only [c, decide_false, Bool.not_false, condR_eq, if_true]
      unfold orL
      rw [if_pos c]; rfl
theorem g48l (l : List Int) (hl : l.length < 1000000000) : Gives 48 [sl one l] (int (orL l)) := gives_of ok48 rfl rfl ⟨Hp.empty, by
  rw [r48, sl_len, Option.bind_some]
  exact loop48 l hl Hp.empty l.length 0 (by omega) (Nat.zero_le _)⟩
theorem e48l (a b c d e f g : Int) {h : Hp} {p : Pos} (hp : h.get p = some (.cells 7 [int a, int b, int c, int d, int e, int f, int g])) : W9 (pos 48) [.sl p 0 7 8 1] h = some (int (orL [a, b, c, d, e, f, g]), h.set p (.rc 7 [int a, int b, int c, int d, int e, int f, int g])) :=
  g48l [a, b, c, d, e, f, g] (by show 7 < _; omega) h _ _ (by rw [frzs_cons, frz_sl (m := 7) (l := [int a, int b, int c, int d, int e, int f, int g]) (by rw [hp]; rfl) (by decide) (by decide) rfl]; rfl)
theorem al71 (id : Pos) (a b c d e f g : Int) : alRows 7 1 id [.i .i64 a, .i .i64 b, .i .i64 c, .i .i64 d, .i .i64 e, .i .i64 f, .i .i64 g] = some (.cells 7 [.i .i64 a, .i .i64 b, .i .i64 c, .i .i64 d, .i .i64 e, .i .i64 f, .i .i64 g], .sl id 0 7 8 1) := rfl
def cmpV (a b : Want) : Int := orL [cmpI a.kind b.kind, cmpL a.path b.path, cmpI a.fn b.fn, cmpI a.fo b.fo, cmpI a.node b.node, cmpI a.cell b.cell, cmpI a.inp b.inp]
theorem g26 (a b : Want) (ha : a.path.length < 1000000000) : Gives 26 [.agg a.c, .agg b.c] (int (cmpV a b)) := gives_of ok26 rfl rfl (by
  have e0 := (g46 a.path b.path ha).at rfl
  have e1 := (g50 a.kind b.kind).at rfl
  have e2 := (g49 a.fn b.fn).at rfl
  have e3 := (g49 a.fo b.fo).at rfl
  have e4 := (g49 a.node b.node).at rfl
  have e5 := (g49 a.cell b.cell).at rfl
  have e6 := (g49 a.inp b.inp).at rfl
  have e7 := fun (h : Hp) (p : Pos) hp => e48l (cmpI a.kind b.kind) (cmpL a.path b.path) (cmpI a.fn b.fn) (cmpI a.fo b.fo) (cmpI a.node b.node) (cmpI a.cell b.cell) (cmpI a.inp b.inp) (h := h) (p := p) hp
  unfold int at e0 e1 e2 e3 e4 e5 e6 e7
  rw [r26]
  simp [int, Want.c, e0, e1, e2, e3, e4, e5, e6, al71, e7, cmpV])
theorem g6 (a b : Want) (ha : a.path.length < 1000000000) : Gives 6 [.agg a.c, .agg b.c] (.b (decide (cmpV a b < 0))) := gives_of ok6 rfl rfl (by
  have e := (g26 a b ha).at rfl
  unfold int Want.c at e
  rw [r6]
  simp [Want.c, e])
end Go.Proofs.YtgboonfbfapaaaaGreat
/- Contracts: equal paths; the document's Less of wants. -/
namespace Go.Proofs.YtgboonfbfapaaaaGreat
open Go.Fg

theorem eqa_hop (x y : Hop) : evEqa true [0, 0] [.agg x.c, .agg y.c] = some (.b (!decide (x = y))) := by
  simp [Hop.c]
  cases x; cases y; simp
theorem loop27 (xs ys : List Hop) (hx : xs.length < 1000000000) (hl : ys.length = xs.length) (h : Hp) : ∀ n i, xs.length - i = n → i ≤ xs.length → jj W9 27 2 [sl Hop.c xs, sl Hop.c ys, .i .i64 (i : Int)] h = some (.b (decide (xs.drop i = ys.drop i)), h) := by
  intro n
  induction n with
  | zero =>
    intro i h1 h2
    have e : i = xs.length := by omega
    subst e
    rw [r27_2, sl_len, Option.bind_some, evBin_lss, Option.bind_some, decide_eq_false (by omega), List.drop_length, ← hl, List.drop_length]
    simp only [condR_eq, Bool.false_eq_true, if_false]
    rw [r27_1]; rfl
  | succ n ih =>
    intro i h1 h2
    obtain ⟨x, hx1, hx2⟩ := ex_at (l := xs) (i := i) (by omega)
    obtain ⟨y, hy1, hy2⟩ := ex_at (l := ys) (i := i) (by omega)
    have ld : ∀ (x : Hop), evLd 2 h [.pi x.c] = some (.agg x.c) := fun _ => rfl
    rw [r27_2, sl_len, Option.bind_some, evBin_lss, Option.bind_some, decide_eq_true (by omega)]
    simp only [condR_eq, if_true]
    rw [r27_4, sl_ia (z := 2) hx1 rfl, Option.bind_some, ld, Option.bind_some, sl_ia (z := 2) hy1 rfl, Option.bind_some, ld, Option.bind_some, eqa_hop, Option.bind_some, hx2, hy2]
    by_cases c : x = y
    · simp only [c, decide_true, Bool.not_true, condR_eq, Bool.false_eq_true, if_false]
      rw [r27_3, evBin_add, Option.bind_some, wrap1 (by omega), ih (i + 1) (by omega) (by omega)]
      simp
    · simp only [c, decide_false, Bool.not_false, condR_eq, if_true]
      have : ¬ (x :: xs.drop (i + 1) = y :: ys.drop (i + 1)) := fun e => c (List.cons.inj e).1
      rw [decide_eq_false this]
theorem g27 (xs ys : List Hop) (hx : xs.length < 1000000000) : Gives 27 [sl Hop.c xs, sl Hop.c ys] (.b (decide (xs = ys))) := gives_of ok27 rfl rfl ⟨Hp.empty, by
  rw [r27, sl_len, Option.bind_some, sl_len, Option.bind_some, evBin_neq, Option.bind_some]
  by_cases c : (xs.length : Int) = ys.length
  · simp only [c, decide_true, Bool.not_true, condR_eq, Bool.false_eq_true, if_false]
    rw [r27_5]
    exact loop27 xs ys hx (by omega) Hp.empty xs.length 0 (by omega) (Nat.zero_le _)
  · simp only [c, decide_false, Bool.not_false, condR_eq, if_true]
    have : ¬ xs = ys := fun e => c (by rw [e])
    rw [decide_eq_false this]⟩
def lessV (a b : Want) : Bool :=
  cond (decide (a.kind = b.kind)) (cond (decide (a.path = b.path)) (cond (decide (a.fn = b.fn)) (cond (decide (a.fo = b.fo)) (cond (decide (a.node = b.node)) (cond (decide (a.cell = b.cell))
    (decide (a.inp < b.inp)) (decide (a.cell < b.cell))) (decide (a.node < b.node))) (decide (a.fo < b.fo))) (decide (a.fn < b.fn))) (decide (cmpW ⟨a.path, 0⟩ ⟨b.path, 0⟩ < 0))) (decide (a.kind < b.kind))
theorem g8 (a b : Want) (ha : a.path.length < 1000000000) : Gives 8 [.agg a.c, .agg b.c] (.b (lessV a b)) := gives_of ok8 rfl rfl (by
  have e1 := (g27 a.path b.path ha).at rfl
  have e2 := (g28 ⟨a.path, 0⟩ ⟨b.path, 0⟩ ha).at rfl
  have bu : ∀ l : List Hop, evBuild [.sn, .i .i64 0] [(0, 1)] [sl Hop.c l] = some (.agg (Wait.c ⟨l, 0⟩)) := fun _ => rfl
  refine ⟨(Hp.empty.new (.cells 7 a.c)).new (.cells 7 b.c), ?_⟩
  have hp : ((Hp.empty.new (.cells 7 a.c)).new (.cells 7 b.c)).get .h = some (.cells 7 a.c) := by simp
  have hq : ((Hp.empty.new (.cells 7 a.c)).new (.cells 7 b.c)).get (.o .h) = some (.cells 7 b.c) := by simp
  rw [r8]
  simp only [bl_eq, cells_agg, lenN_eq, Want.c_len, Hp.next_new, empty_next, Pos.nxt_h]
  generalize (Hp.empty.new (.cells 7 a.c)).new (.cells 7 b.c) = H at hp hq
  have l1 : ∀ o, evLd1 H [.p .h o] = a.c[o]? := fun o => ld1_of hp
  have l2 : ∀ o, evLd1 H [.p (.o .h) o] = b.c[o]? := fun o => ld1_of hq
  have c0 : ∀ w : Want, w.c[0]? = some (.i .u8 w.kind) := fun _ => rfl
  have c1 : ∀ w : Want, w.c[1]? = some (sl Hop.c w.path) := fun _ => rfl
  have c2 : ∀ w : Want, w.c[2]? = some (.i .i64 w.fn) := fun _ => rfl
  have c3 : ∀ w : Want, w.c[3]? = some (.i .i64 w.fo) := fun _ => rfl
  have c4 : ∀ w : Want, w.c[4]? = some (.i .i64 w.node) := fun _ => rfl
  have c5 : ∀ w : Want, w.c[5]? = some (.i .i64 w.cell) := fun _ => rfl
  have c6 : ∀ w : Want, w.c[6]? = some (.i .i64 w.inp) := fun _ => rfl
  unfold lessV
  cases k0 : decide (a.kind = b.kind) <;> cases k1 : decide (a.path = b.path) <;> cases k2 : decide (a.fn = b.fn) <;> cases k3 : decide (a.fo = b.fo) <;> cases k4 : decide (a.node = b.node) <;> cases k5 : decide (a.cell = b.cell) <;>
    simp only [evFa_p, Nat.zero_add, Nat.add_zero, Nat.reduceAdd, l1, l2, c0, c1, c2, c3, c4, c5, c6, Option.bind_some, evBin_neq, evBin_lss, condR_eq, k0, k1, k2, k3, k4, k5, e1, e2, bu, evNot_eq, Bool.not_true, Bool.not_false, Bool.false_eq_true, if_true, if_false, r8_1, _root_.cond_true, _root_.cond_false])
end Go.Proofs.YtgboonfbfapaaaaGreat
/- Wants: the plain law; own. -/
namespace Go.Proofs.YtgboonfbfapaaaaGreat
open Go.Fg

theorem cmpI_zero {a b : Int} : cmpI a b = 0 ↔ a = b := by unfold cmpI; split <;> (try split) <;> omega
theorem cmpI_neg {a b : Int} : cmpI a b < 0 ↔ a < b := by unfold cmpI; split <;> (try split) <;> omega
theorem cmpH_zero {x y : Hop} : cmpH x y = 0 ↔ x = y := by
  obtain ⟨a, b⟩ := x
  obtain ⟨c, d⟩ := y
  unfold cmpH orI
  simp only [Hop.mk.injEq]
  by_cases h : cmpI a c = 0
  · rw [if_neg (by simpa using h), cmpI_zero]
    have := cmpI_zero.1 h
    exact ⟨fun e => ⟨this, e⟩, fun e => e.2⟩
  · rw [if_pos h]
    exact ⟨fun e => absurd e h, fun e => absurd (cmpI_zero.2 e.1) h⟩
theorem cmpL_zero : ∀ {xs ys : List Hop}, cmpL xs ys = 0 ↔ xs = ys
  | [], [] => by simp [cmpL]
  | [], _ :: _ => by simp [cmpL]
  | _ :: _, [] => by simp [cmpL]
  | x :: xs, y :: ys => by
    have ih := cmpL_zero (xs := xs) (ys := ys)
    by_cases h : cmpH x y = 0
    · have e := cmpH_zero.1 h
      subst e
      simp [cmpL, h, ih]
    · simp only [cmpL, ne_eq, h, not_false_eq_true, if_true, List.cons.injEq, false_iff, not_and]
      intro e
      exact absurd (cmpH_zero.2 e) h
theorem orL_no {x : Int} {l : List Int} (h : x ≠ 0) : orL (x :: l) = x := by unfold orL; exact if_pos h
theorem orL_go {x : Int} {l : List Int} (h : x = 0) : orL (x :: l) = orL l := by
  show (if x ≠ 0 then x else orL l) = _
  rw [if_neg (by omega)]
theorem orL_one (x : Int) : orL [x] = x := by
  by_cases h : x = 0
  · rw [orL_go h]; exact h.symm
  · exact orL_no h
theorem cmpV_self (a : Want) : cmpV a a = 0 := by
  unfold cmpV
  rw [orL_go (cmpI_zero.2 rfl), orL_go (cmpL_zero.2 rfl), orL_go (cmpI_zero.2 rfl), orL_go (cmpI_zero.2 rfl), orL_go (cmpI_zero.2 rfl), orL_go (cmpI_zero.2 rfl), orL_one]
  exact cmpI_zero.2 rfl
theorem step_less {x y : Int} {l : List Int} {r : Bool} (h : x = y → r = decide (orL l < 0)) : cond (decide (x = y)) r (decide (x < y)) = decide (orL (cmpI x y :: l) < 0) := by
  by_cases c : x = y
  · rw [decide_eq_true c, orL_go (cmpI_zero.2 c)]; exact h c
  · rw [decide_eq_false c, orL_no (fun e => c (cmpI_zero.1 e))]
    show decide (x < y) = _
    rw [decide_eq_decide]; exact cmpI_neg.symm
theorem less_cmp (a b : Want) : lessV a b = decide (cmpV a b < 0) := by
  unfold lessV cmpV
  refine step_less fun _ => ?_
  by_cases c : a.path = b.path
  · rw [decide_eq_true c, orL_go (cmpL_zero.2 c)]
    refine step_less fun _ => step_less fun _ => step_less fun _ => step_less fun _ => ?_
    rw [orL_one, decide_eq_decide]; exact cmpI_neg.symm
  · have h : cmpL a.path b.path ≠ 0 := fun e => c (cmpL_zero.1 e)
    rw [decide_eq_false c, orL_no h]
    show decide (cmpW ⟨a.path, 0⟩ ⟨b.path, 0⟩ < 0) = _
    unfold cmpW orI
    rw [if_pos h]
theorem chunks_flat {α : Type} {f : α → List IV} {w : Nat} (hw : ∀ x, (f x).length = w) : ∀ l : List α, chunks w l.length (l.flatMap f) = l.map f
  | [] => rfl
  | x :: t => by
    show (((x :: t).flatMap f).take w) :: chunks w t.length (((x :: t).flatMap f).drop w) = _
    have e1 : ((x :: t).flatMap f).take w = f x := by rw [List.flatMap_cons, ← hw x, List.take_left]
    have e2 : ((x :: t).flatMap f).drop w = t.flatMap f := by rw [List.flatMap_cons, ← hw x, List.drop_left]
    rw [e1, e2, chunks_flat hw t]; rfl
theorem frzL_cons (f : Hp → IV → Option (IV × Hp)) (h : Hp) (v : IV) (vs : List IV) : frzL f h (v :: vs) = (f h v).bind fun p => (frzL f p.2 vs).bind fun q => some (p.1 :: q.1, q.2) := by
  show (match f h v with | none => none | some (u, h') => (match frzL f h' vs with | none => none | some (us, h'') => some (u :: us, h''))) = _
  cases f h v with
  | none => rfl
  | some p => obtain ⟨u, h'⟩ := p; show (match frzL f h' vs with | none => none | some (us, h'') => some (u :: us, h'')) = (frzL f h' vs).bind _; cases frzL f h' vs <;> rfl
theorem frz_agg_of {h : Hp} {l l' : List IV} {h' : Hp} (e : frzL (frzF 39) h l = some (l', h')) : frz h (.agg l) = some (.agg l', h') := by
  show (match frzL (frzF 39) h l with | some (l', h') => some (IV.agg l', h') | none => none) = _
  rw [e]
theorem hop_atoms (l : List Hop) : allAtoms (l.flatMap Hop.c) = true := by
  induction l with
  | nil => rfl
  | cons x t ih => rw [allAtoms_eq] at ih ⊢; rw [List.flatMap_cons, List.all_append, ih]; rfl
theorem hop_im (l : List Hop) : (l.flatMap Hop.c).all Im = true := by
  induction l with
  | nil => rfl
  | cons x t ih => rw [List.flatMap_cons, List.all_append, ih]; rfl
theorem hop_len (l : List Hop) : (l.flatMap Hop.c).length = l.length * 2 := by
  induction l with
  | nil => rfl
  | cons x t ih => rw [List.flatMap_cons, List.length_append, ih, List.length_cons]; show 2 + _ = _; omega
theorem app_hops (l : List Hop) (hl : l.length < 1000000) (q : Pos) (H : Hp) (hn : H.get H.next = none) : ∃ v H1, efApp 2 16 H [.sl q 0 0 1 2, sl Hop.c l] = some (v, H1) ∧ isAtomV v = true ∧ (∀ p b, H.get p = some b → H1.get p = some b) ∧
    ∀ H2 : Hp, (∀ b, H1.get H.next = some b → H2.get H.next = some b) → ∃ H3, frzF 39 H2 v = some (sl Hop.c l, H3) := by
  have e1 : lenI (sl Hop.c l) = some l.length := by unfold sl; show some (l.map Hop.c).length = _; rw [List.length_map]
  have e2 : firstI H 2 l.length (sl Hop.c l) = some (l.flatMap Hop.c) := by
    unfold sl
    show cond (Nat.ble l.length (l.map Hop.c).length && ((l.map Hop.c).all fun e => Nat.beq e.length 2)) (some (((l.map Hop.c).take l.length).flatten)) none = _
    have c1 : Nat.ble l.length (l.map Hop.c).length = true := Nat.ble_eq_true_of_le (by rw [List.length_map]; exact Nat.le_refl _)
    have c2 : ((l.map Hop.c).all fun e => Nat.beq e.length 2) = true := by
      rw [List.all_eq_true]; intro e he
      obtain ⟨x, _, rfl⟩ := List.mem_map.1 he
      rfl
    rw [c1, c2, List.take_of_length_le (by rw [List.length_map]; exact Nat.le_refl _), List.flatMap_def]
    rfl
  have e3 : efApp 2 16 H [.sl q 0 0 1 2, sl Hop.c l] = appendI H 2 16 (.sl q 0 0 1 2) l.length (l.flatMap Hop.c) := by
    show (match lenI (sl Hop.c l) with | some n => (match firstI H 2 n (sl Hop.c l) with | some new => cond (allAtoms new) (appendI H 2 16 (.sl q 0 0 1 2) n new) none | none => none) | none => none) = _
    rw [e1]; simp only [e2]; rw [hop_atoms]; rfl
  rw [e3]
  by_cases c : l.length = 0
  · have : l = [] := List.length_eq_zero_iff.1 c
    subst this
    exact ⟨_, H, rfl, rfl, fun _ _ h => h, fun H2 _ => ⟨H2, rfl⟩⟩
  · have e4 : appendI H 2 16 (.sl q 0 0 1 2) l.length (l.flatMap Hop.c) = some (.sl H.next 0 l.length 0 2, H.new (.cells (l.length * 2) (l.flatMap Hop.c))) := by
      show cond (Nat.beq 2 2) (cond (Nat.beq l.length 0) _ (cond (Nat.ble ((0 + l.length) * 16) bound) (match (cond (Nat.beq 0 0) (some []) (H.read q 0 (0 * 2))) with | none => none | some old => growI H q 0 0 1 2 l.length old (l.flatMap Hop.c)) none)) none = _
      rw [beq_no c, Nat.ble_eq_true_of_le (show (0 + l.length) * 16 ≤ bound by show _ ≤ 100000000000; omega)]
      show cond (Nat.ble (0 + l.length) 0) _ (some (IV.sl H.next 0 (0 + l.length) 0 2, H.new (.cells ((0 + l.length) * 2) (l.flatMap Hop.c)))) = _
      rw [show Nat.ble (0 + l.length) 0 = false from by cases h : Nat.ble (0 + l.length) 0 with | true => have := Nat.le_of_ble_eq_true h; omega | false => rfl, Nat.zero_add l.length]
      rfl
    refine ⟨_, _, e4, rfl, fun p b h => ?_, fun H2 h2 => ?_⟩
    · rw [get_new, if_neg (fun e => by rw [e, hn] at h; cases h)]; exact h
    · have g := h2 _ (by rw [get_new, if_pos rfl])
      have tk : ((l.flatMap Hop.c).drop 0).take (l.length * 2) = l.flatMap Hop.c := by
        rw [List.drop_zero, List.take_of_length_le (by rw [hop_len]; exact Nat.le_refl _)]
      refine ⟨H2.set H.next (.rc (l.length * 2) (l.flatMap Hop.c)), ?_⟩
      show cond (Nat.beq l.length 0) _ (match cellsOf (H2.get H.next) with | some (m, l1) => cond (Nat.ble (0 + l.length * 2) m) (match frzL (frzF 38) H2 ((l1.drop 0).take (l.length * 2)) with | some (l', h') => some (IV.sli (chunks 2 l.length l'), h'.set H.next (.rc m l1)) | none => none) none | none => none) = _
      rw [beq_no c, g]
      show cond (Nat.ble (0 + l.length * 2) (l.length * 2)) (match frzL (frzF 38) H2 (((l.flatMap Hop.c).drop 0).take (l.length * 2)) with | some (l', h') => some (IV.sli (chunks 2 l.length l'), h'.set H.next (.rc (l.length * 2) (l.flatMap Hop.c))) | none => none) none = _
      rw [Nat.ble_eq_true_of_le (by omega), tk, frzL_im 37 H2 (hop_im l)]
      show some (IV.sli (chunks 2 l.length (l.flatMap Hop.c)), _) = _
      rw [chunks_flat (w := 2) (fun _ => rfl)]; rfl
theorem gives_frz {k : Nat} {args : List IV} {r0 r : IV} (ok : okk k = true) (hi : imp9 (pos k) = false) {h2 h3 : Hp} (e : xx W9 k args Hp.empty = some (r0, h2)) (hr : frz h2 r0 = some (r, h3)) : Gives k args r := fun h args0 h1 e0 => call9 ok hi e0 e hr
def wantV7 (w : Want) (v : IV) : List IV := [.i .u8 w.kind, v, .i .i64 w.fn, .i .i64 w.fo, .i .i64 w.node, .i .i64 w.cell, .i .i64 w.inp]
theorem g7 (w : Want) (hw : w.path.length < 1000000) : Gives 7 [.agg w.c] (.agg w.c) := by
  obtain ⟨v, H1, ea, av, keep, fr⟩ := app_hops w.path hw (.i .h) (((Hp.empty.new (.cells 7 w.c)).new (.cells 7 [.i .u8 0, .sn, .i .i64 0, .i .i64 0, .i .i64 0, .i .i64 0, .i .i64 0])).new (.cells 0 [])) rfl
  have g1 := keep .h (.cells 7 w.c) rfl
  have g2 := keep (.o .h) (.cells 7 [.i .u8 0, .sn, .i .i64 0, .i .i64 0, .i .i64 0, .i .i64 0, .i .i64 0]) rfl
  have at7 : allAtoms (wantV7 w v) = true := by rw [allAtoms_eq]; unfold wantV7; simp [av]
  have s1 : efSt 1 H1 [.p .h 1, v] = some (undefd, H1.set .h (.cells 7 (wantV7 w v))) := by
    have cv : v.cells = [v] := by cases v <;> first | rfl | (cases av; done)
    show cond (cond (Nat.beq (lenN v.cells) 1) (allAtoms v.cells) false) (match H1.write .h 1 1 v.cells with | some h' => some (undefd, h') | none => none) none = _
    rw [cv]
    have a1 : allAtoms [v] = true := by rw [allAtoms_eq]; simp [av]
    rw [write_eq (n := 1) (by rw [g1]; rfl), if_pos (by omega), if_neg (by omega), a1]
    rfl
  have l7 : evLd 7 (H1.set .h (.cells 7 (wantV7 w v))) [.p .h 0] = some (.agg (wantV7 w v)) := by
    rw [evLd_p, read_eq (m := 7) (l := wantV7 w v) (by rw [get_set, if_pos rfl]; rfl), if_pos (by decide), if_pos rfl]; rfl
  have s7 : efSt 7 (H1.set .h (.cells 7 (wantV7 w v))) [.p (.o .h) 0, .agg (wantV7 w v)] = some (undefd, (H1.set .h (.cells 7 (wantV7 w v))).set (.o .h) (.cells 7 (wantV7 w v))) :=
    efSt_full (by rw [get_set, if_neg (by decide)]; exact g2) rfl at7
  have l7' : evLd 7 ((H1.set .h (.cells 7 (wantV7 w v))).set (.o .h) (.cells 7 (wantV7 w v))) [.p (.o .h) 0] = some (.agg (wantV7 w v)) := by
    rw [evLd_p, read_eq (m := 7) (l := wantV7 w v) (by rw [get_set, if_pos rfl]; rfl), if_pos (by decide), if_pos rfl]; rfl
  obtain ⟨H3, f3⟩ := fr ((H1.set .h (.cells 7 (wantV7 w v))).set (.o .h) (.cells 7 (wantV7 w v))) (fun b hb => by
    have n : (((Hp.empty.new (.cells 7 w.c)).new (.cells 7 [.i .u8 0, .sn, .i .i64 0, .i .i64 0, .i .i64 0, .i .i64 0, .i .i64 0])).new (.cells 0 [])).next = .o (.o .h) := rfl
    rw [n] at hb ⊢
    rw [get_set, if_neg (by decide), get_set, if_neg (by decide)]; exact hb)
  refine gives_frz ok7 rfl (r0 := .agg (wantV7 w v)) (h2 := (H1.set .h (.cells 7 (wantV7 w v))).set (.o .h) (.cells 7 (wantV7 w v))) ?_ (h3 := H3) ?_
  · have al : ∀ id : Pos, alRows 0 2 id [] = some (.cells 0 [], .sl id 0 0 1 2) := fun _ => rfl
    have fa : evFa 1 [.p .h 0] = some (.p .h 1) := rfl
    have c1 : evLd1 (((Hp.empty.new (.cells 7 w.c)).new (.cells 7 [.i .u8 0, .sn, .i .i64 0, .i .i64 0, .i .i64 0, .i .i64 0, .i .i64 0])).new (.cells 0 [])) [.p .h 1] = some (sl Hop.c w.path) := rfl
    have nx : ((Hp.empty.new (.cells 7 w.c)).new (.cells 7 [.i .u8 0, .sn, .i .i64 0, .i .i64 0, .i .i64 0, .i .i64 0, .i .i64 0])).next = .i .h := rfl
    rw [r7]
    simp only [bl_eq, cells_agg, lenN_eq, Want.c_len, Hp.next_new, empty_next, Pos.nxt_h, al, Option.bind_some, fa, c1, nx]
    rw [show Pos.nxt (.o .h) = .i .h from rfl, ea, Option.bind_some, s1, Option.bind_some, l7, Option.bind_some, s7, Option.bind_some, l7', Option.bind_some]
  · refine frz_agg_of ?_
    have c0 : ∀ (X : Hp) (k : IntKind) (n : Int), frzF 39 X (.i k n) = some (.i k n, X) := fun _ _ _ => rfl
    have c3 : frzL (frzF 39) H3 [.i .i64 w.fn, .i .i64 w.fo, .i .i64 w.node, .i .i64 w.cell, .i .i64 w.inp] = some ([.i .i64 w.fn, .i .i64 w.fo, .i .i64 w.node, .i .i64 w.cell, .i .i64 w.inp], H3) := rfl
    show frzL (frzF 39) _ [.i .u8 w.kind, v, .i .i64 w.fn, .i .i64 w.fo, .i .i64 w.node, .i .i64 w.cell, .i .i64 w.inp] = _
    rw [frzL_cons, c0, Option.bind_some, frzL_cons, f3, Option.bind_some, c3]
    rfl
end Go.Proofs.YtgboonfbfapaaaaGreat
