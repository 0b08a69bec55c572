/- The seat's program on the ideal machine. -/
import Derived.Test.YtkfdbldnghcngaaGreatFd
import Derived.Test.YtkfdbldnghcngaaGreatProg
import Derived.KernelRfl
set_option linter.unusedSimpArgs false
set_option linter.unusedVariables false
namespace Go.Proofs.YtkfdbldnghcngaaGreat
open Go.Fg
noncomputable def P9 : Program := Tryz.prog
/-- Where what is appended is frozen before. -/
noncomputable def Z9 : Nat → Oper → Bool := fun _ _ => false
noncomputable def okk (k : Nat) : Bool := okN P9 Z9 k
noncomputable def xx (cf : CallF) (k : Nat) (args : List IV) (h : Hp) : R := X0 cf (lfn P9 Z9 k) args h
noncomputable def jj (cf : CallF) (k j : Nat) (vs : List IV) (h : Hp) : R := J cf (lfn P9 Z9 k) j vs h
noncomputable def jx (cf : CallF) (k j : Nat) (vs : List IV) (h : Hp) : R := XJ cf (lfn P9 Z9 k) j vs h
theorem jj_eq {k : Nat} (ok : okk k = true) (cf : CallF) (j : Nat) (vs : List IV) (h : Hp) : jj cf k j vs h = jx cf k j vs h := place ok cf j vs h
/-- The functions that work on their caller's memory. -/
def imps : List Nat := [72, 73, 74, 64, 85, 88, 97, 119, 126, 127, 128, 129, 131, 132, 133, 190, 192, 196, 197, 198, 249, 250, 92, 118, 248,
  60, 66, 76, 77, 78, 89, 94, 95, 98, 114, 116, 120, 135, 136, 144, 147, 211, 212, 213,
  148, 149, 151, 152, 214, 215, 216, 217, 162, 165, 224, 243, 244, 274, 275, 276, 277, 315,
  157, 175, 235, 236, 237, 261, 262, 263, 264, 265, 266, 267, 268, 269, 300, 301, 302, 303, 304, 305, 307, 308, 309, 312, 313, 317, 318, 319, 320, 322, 311, 256]
noncomputable def imp9 : Pos → Bool := fun p => memN (p.num - 1) imps
noncomputable def W9 : CallF := W (fun _ _ => none) imp9 (tab P9 Z9)
theorem call9 {k : Nat} (ok : okk k = true) (hi : imp9 (pos k) = false) {args args' : List IV} {h h1 h2 h3 : Hp} {r r' : IV} (ha : frzs h args = some (args', h1)) (e : xx W9 k args' Hp.empty = some (r, h2)) (hr : frz h2 r = some (r', h3)) : W9 (pos k) args h = some (r', h1) :=
  call_pure ok hi ha rfl e hr
theorem call9i {k : Nat} (ok : okk k = true) (hi : imp9 (pos k) = true) {args : List IV} {h : Hp} {r : IV × Hp} (e : xx W9 k args h = some r) : W9 (pos k) args h = some r :=
  call_imp ok hi e
end Go.Proofs.YtkfdbldnghcngaaGreat
/- The data of the program, and how the machine holds them. -/
namespace Go.Proofs.YtkfdbldnghcngaaGreat
open Go.Fg

abbrev Str := List Nat
def int (n : Int) : IV := .i .i64 n
def sl {α : Type} (f : α → List IV) (l : List α) : IV := .sli (l.map f)
structure From where
  node : Int
  out : Int
  deriving DecidableEq
def From.c (f : From) : List IV := [.i .i64 f.node, .i .i64 f.out]
structure Node where
  op : Int
  name : Str
  n : Int
  ins : List From
  deriving DecidableEq
def Node.c (x : Node) : List IV := [.i .u8 x.op, .s x.name, .i .i64 x.n, sl From.c x.ins]
structure Block where
  name : Str
  params : Int
  nodes : List Node
  nexts : List From
  exits : List From
  deriving DecidableEq
def Block.c (b : Block) : List IV := [.s b.name, .i .i64 b.params, sl Node.c b.nodes, sl From.c b.nexts, sl From.c b.exits]
structure Val where
  kind : Int
  n : Int
  deriving DecidableEq
def Val.c (v : Val) : List IV := [.i .u8 v.kind, .i .i64 v.n]

@[simp] theorem From.c_len (f : From) : f.c.length = 2 := rfl
@[simp] theorem Node.c_len (f : Node) : f.c.length = 4 := rfl
@[simp] theorem Block.c_len (f : Block) : f.c.length = 5 := rfl
@[simp] theorem Val.c_len (f : Val) : f.c.length = 2 := rfl
@[simp] theorem sl_len {α : Type} (f : α → List IV) (l : List α) : evLens [sl f l] = some (.i .i64 l.length) := by unfold sl; simp
theorem sl_ia {α : Type} {f : α → List IV} {z : Nat} {l : List α} {i : Nat} {x : α} {k : IntKind} (h : l[i]? = some x) (hz : (f x).length = z) : evIa z [sl f l, .i k (i : Int)] = some (.pi (f x)) := by
  unfold sl
  exact evIa_sli (by rw [List.getElem?_map, h]; rfl) hz
@[simp] theorem im_sl {α : Type} (f : α → List IV) (l : List α) : Im (sl f l) = true := rfl
@[simp] theorem frz_sl' {α : Type} (h : Hp) (f : α → List IV) (l : List α) : frz h (sl f l) = some (sl f l, h) := rfl
@[simp] theorem cells_sl' {α : Type} (f : α → List IV) (l : List α) : IV.cells (sl f l) = [sl f l] := rfl
@[simp] theorem atom_sl' {α : Type} (f : α → List IV) (l : List α) : isAtomV (sl f l) = true := rfl
@[simp] theorem ims (x : Bool) (k : IntKind) (n : Int) (l : List Nat) (m : List IV) (q : List (List IV)) (m1 m2 : List IV) : Im (.b x) = true ∧ Im (.i k n) = true ∧ Im (.s l) = true ∧ Im .pn = true ∧ Im (.pi m) = true ∧ Im (.sli q) = true ∧ Im (.mi m1 m2) = true := ⟨rfl, rfl, rfl, rfl, rfl, rfl, rfl⟩
end Go.Proofs.YtkfdbldnghcngaaGreat
/- The outcomes of chapter 9, and how they are read. -/
namespace Go.Proofs.YtkfdbldnghcngaaGreat
open Go.Fg

structure Hop where
  node : Int
  turn : Int
  deriving DecidableEq
def Hop.c (f : Hop) : List IV := [.i .i64 f.node, .i .i64 f.turn]
structure Wait where
  path : List Hop
  node : Int
  deriving DecidableEq
def Wait.c (x : Wait) : List IV := [sl Hop.c x.path, .i .i64 x.node]
def cellC (l : List Val) : List IV := [sl Val.c l]
structure Outcome where
  vals : List Val
  cells : List (List Val)
  fires : Int
  contexts : Int
  structs : Int
  rounds : Int
  waits : List Wait
  deriving DecidableEq
def Outcome.c (o : Outcome) : List IV := [sl Val.c o.vals, sl cellC o.cells, .i .i64 o.fires, .i .i64 o.contexts, .i .i64 o.structs, .i .i64 o.rounds, sl Wait.c o.waits]
@[simp] theorem Hop.c_len (f : Hop) : f.c.length = 2 := rfl
@[simp] theorem Wait.c_len (f : Wait) : f.c.length = 2 := rfl
@[simp] theorem cellC_len (f : List Val) : (cellC f).length = 1 := rfl
@[simp] theorem Outcome.c_len (f : Outcome) : f.c.length = 7 := rfl

def isI (n : Int) : Prop := IntKind.i64.min ≤ n ∧ n ≤ IntKind.i64.max
def isU8 (n : Int) : Prop := IntKind.u8.min ≤ n ∧ n ≤ IntKind.u8.max
def oks {α : Type} (ok : α → Prop) (l : List α) : Prop := (∀ a ∈ l, ok a) ∧ l.length ≤ maxLen
def Hop.ok (h : Hop) : Prop := isI h.node ∧ isI h.turn
def Wait.ok (x : Wait) : Prop := oks Hop.ok x.path ∧ isI x.node
def Val.ok (v : Val) : Prop := isU8 v.kind ∧ isI v.n
def Outcome.ok (o : Outcome) : Prop := oks Val.ok o.vals ∧ oks (oks Val.ok) o.cells ∧ isI o.fires ∧ isI o.contexts ∧ isI o.structs ∧ isI o.rounds ∧ oks Wait.ok o.waits

theorem rd3 : Reads P9 3 (fun n : Int => [IV.i .i64 n]) isI := Reads.int Tryz.underlying3
theorem rd5 : Reads P9 5 (fun n : Int => [IV.i .u8 n]) isU8 := Reads.int Tryz.underlying5
theorem rd99 : Reads P9 99 Val.c Val.ok := (Reads.struct Tryz.underlying99 (N := 2) (by kernel_rfl) (.cons rfl (m := 1) (by kernel_rfl) rd5 (.cons rfl (m := 1) (by kernel_rfl) rd3 .nil))).map (fun x => ⟨x.1, x.2.1⟩) (fun _ => rfl) (fun _ h => ⟨h.1, h.2.1⟩)
theorem rd97 : Reads P9 97 Hop.c Hop.ok := (Reads.struct Tryz.underlying97 (N := 2) (by kernel_rfl) (.cons rfl (m := 1) (by kernel_rfl) rd3 (.cons rfl (m := 1) (by kernel_rfl) rd3 .nil))).map (fun x => ⟨x.1, x.2.1⟩) (fun _ => rfl) (fun _ h => ⟨h.1, h.2.1⟩)
theorem rd62 : Reads P9 62 (fun l => [sl Hop.c l]) (oks Hop.ok) := Reads.slice Tryz.underlying62 (z := 2) (by kernel_rfl) (by decide) rd97
theorem rd64 : Reads P9 64 Wait.c Wait.ok := (Reads.struct Tryz.underlying64 (N := 2) (by kernel_rfl) (.cons rfl (m := 1) (by kernel_rfl) rd62 (.cons rfl (m := 1) (by kernel_rfl) rd3 .nil))).map (fun x => ⟨x.1, x.2.1⟩) (fun _ => rfl) (fun _ h => ⟨h.1, h.2.1⟩)
theorem rd35 : Reads P9 35 (fun l => [sl Wait.c l]) (oks Wait.ok) := Reads.slice Tryz.underlying35 (z := 2) (by kernel_rfl) (by decide) rd64
theorem rd31 : Reads P9 31 cellC (oks Val.ok) := Reads.slice Tryz.underlying31 (z := 2) (by kernel_rfl) (by decide) rd99
theorem rd32 : Reads P9 32 (fun l => [sl cellC l]) (oks (oks Val.ok)) := Reads.slice Tryz.underlying32 (z := 1) (by kernel_rfl) (by decide) rd31
theorem rd34 : Reads P9 34 (fun x : List Val × List (List Val) => [sl Val.c x.1, sl cellC x.2]) (fun x => oks Val.ok x.1 ∧ oks (oks Val.ok) x.2) :=
  (Reads.struct Tryz.underlying34 (N := 2) (by kernel_rfl) (.cons rfl (m := 1) (by kernel_rfl) rd31 (.cons rfl (m := 1) (by kernel_rfl) rd32 .nil))).map (fun x => (x.1, x.2.1)) (fun _ => rfl) (fun _ h => ⟨h.1, h.2.1⟩)
theorem rd37 : Reads P9 37 Outcome.c Outcome.ok :=
  (Reads.struct Tryz.underlying37 (N := 7) (by kernel_rfl) (.cons rfl (m := 2) (by kernel_rfl) rd34 (.cons rfl (m := 1) (by kernel_rfl) rd3 (.cons rfl (m := 1) (by kernel_rfl) rd3 (.cons rfl (m := 1) (by kernel_rfl) rd3 (.cons rfl (m := 1) (by kernel_rfl) rd3 (.cons rfl (m := 1) (by kernel_rfl) rd35 .nil))))))).map
    (fun x => ⟨x.1.1, x.1.2, x.2.1, x.2.2.1, x.2.2.2.1, x.2.2.2.2.1, x.2.2.2.2.2.1⟩) (fun _ => rfl) (fun _ h => ⟨h.1.1, h.1.2, h.2.1, h.2.2.1, h.2.2.2.1, h.2.2.2.2.1, h.2.2.2.2.2.1⟩)
end Go.Proofs.YtkfdbldnghcngaaGreat
/- What the functions compute, in the machine's words. -/
namespace Go.Proofs.YtkfdbldnghcngaaGreat
open Go.Fg
/- 7 floodgate/floodgatelaw09.ClosureAgrees: 2 parameters -/
theorem ok7 : okk 7 = true := by kernel_rfl
theorem r7 (cf : CallF) (a0 a1 : IV) (h : Hp) : xx cf 7 [a0, a1] h =
 bl (.p (h).next 0) ((h).new (.cells (lenN (IV.cells a0)) (IV.cells a0))) fun v0 h1 =>
 bl (.p (h1).next 0) ((h1).new (.cells (lenN (IV.cells a1)) (IV.cells a1))) fun v2 h3 =>
 (evLd 7 h3 [v0]).bind fun v4 =>
 (cf (pos 31) [v4] h3).bind fun p5 =>
 (evNot [p5.1]).bind fun v6 =>
 (cond (wantV false v6) (evLd 7 p5.2 [v2]) (some undefd)).bind fun v7 =>
 (cond (wantV false v6) (cf (pos 31) [v7] p5.2) (some (undefd, p5.2))).bind fun p8 =>
 (cond (wantV false v6) (evNot [p8.1]) (some undefd)).bind fun v9 =>
 (evPick [v6, (.b true), v9]).bind fun v10 =>
 condR (
 (cf (pos 17) [] p8.2).bind fun p11 =>
 some (p11.1, p11.2)) (
 jj cf 7 5 [v2, v0] p8.2) v10 := by kernel_rfl
/- join -/
theorem r7_5 (cf : CallF) (x3 x2 : IV) (h : Hp) : jj cf 7 5 [x3, x2] h =
 jj cf 7 2 [(.i .i64 0), x3, x2] h :=
 (jj_eq ok7 cf 5 _ h).trans (by kernel_rfl)
/- join -/
theorem r7_1 (cf : CallF) (x3 x2 : IV) (h : Hp) : jj cf 7 1 [x3, x2] h =
 (evLd 7 h [x2]).bind fun v0 =>
 (evLd 7 h [x3]).bind fun v1 =>
 (cf (pos 30) [v0, v1] h).bind fun p2 =>
 (evLd 7 p2.2 [x2]).bind fun v3 =>
 cond (cond (sameLook (.ld 7) [x2] h v3) true false) (
 (evLd 7 p2.2 [x3]).bind fun v4 =>
 cond (cond (sameLook (.ld 7) [x3] h v4) true false) (
 (cf (pos 29) [v3, v4] p2.2).bind fun p5 =>
 (evEqb false [p2.1, p5.1]).bind fun v6 =>
 (cond (wantV true v6) ((evLd 7 p5.2 [x2]).bind fun v16 => some v16) (some undefd)).bind fun v7 =>
 (cond (wantV true v6) ((evLd 7 p5.2 [x2]).bind fun v15 => some v15) (some undefd)).bind fun v8 =>
 (cond (wantV true v6) ((cf (pos 30) [v7, v8] p5.2).bind fun p14 => cond (seenAgain 1023 p14.2 (consIf (wantV true v6) ⟨8, (.ld 7), [x2], v7⟩ (⟨3, (.ld 7), [x2], v3⟩ :: (⟨1, (.ld 7), [x3], v1⟩ :: (⟨0, (.ld 7), [x2], v0⟩ :: []))))) (
 some p14) none) (some (undefd, p5.2))).bind fun p9 =>
 (evPick [v6, p9.1, (.b false)]).bind fun v10 =>
 (cond (wantV true v10) ((cf (pos 17) [] p9.2).bind fun p13 => cond (seenAgain 8191 p13.2 (consIf (wantV true v6) ⟨8, (.ld 7), [x2], v7⟩ (⟨3, (.ld 7), [x2], v3⟩ :: (⟨1, (.ld 7), [x3], v1⟩ :: (⟨0, (.ld 7), [x2], v0⟩ :: []))))) (
 some p13) none) (some (undefd, p9.2))).bind fun p11 =>
 (evPick [v10, p11.1, (.b false)]).bind fun v12 =>
 some (v12, p11.2)) none) none :=
 (jj_eq ok7 cf 1 _ h).trans (by kernel_rfl)
/- loop -/
theorem r7_2 (cf : CallF) (x5 x3 x2 : IV) (h : Hp) : jj cf 7 2 [x5, x3, x2] h =
 (evFa 6 [x2]).bind fun v0 =>
 (evLd1 h [v0]).bind fun v1 =>
 (evLens [v1]).bind fun v2 =>
 (evBin .lss [x5, v2]).bind fun v3 =>
 (cond (wantV true v3) (some x5) (some undefd)).bind fun v4 =>
 (cond (wantV true v3) (evFa 6 [x3]) (some undefd)).bind fun v5 =>
 (cond (wantV true v3) (evLd1 h [v5]) (some undefd)).bind fun v6 =>
 (cond (wantV true v3) (evLens [v6]) (some undefd)).bind fun v7 =>
 (cond (wantV true v3) (evBin .lss [v4, v7]) (some undefd)).bind fun v8 =>
 (evPick [v3, v8, (.b false)]).bind fun v9 =>
 condR (
 jj cf 7 4 [x5, x3, x2] h) (
 jj cf 7 1 [x3, x2] h) v9 :=
 (jj_eq ok7 cf 2 _ h).trans (by kernel_rfl)
/- join -/
theorem r7_4 (cf : CallF) (x5 x3 x2 : IV) (h : Hp) : jj cf 7 4 [x5, x3, x2] h =
 (evFa 6 [x2]).bind fun v0 =>
 (evLd1 h [v0]).bind fun v1 =>
 (evIa 2 [v1, x5]).bind fun v2 =>
 (evLd 2 h [v2]).bind fun v3 =>
 (evFa 6 [x3]).bind fun v4 =>
 (evLd1 h [v4]).bind fun v5 =>
 (evIa 2 [v5, x5]).bind fun v6 =>
 (evLd 2 h [v6]).bind fun v7 =>
 (cf (pos 32) [v3, v7] h).bind fun p8 =>
 (evFa 6 [x2]).bind fun v9 =>
 (evLd1 p8.2 [v9]).bind fun v10 =>
 cond (cond (sameLook .ld1 [v9] h v10) true false) (
 (evIa 2 [v10, x5]).bind fun v11 =>
 (evLd 2 p8.2 [v11]).bind fun v12 =>
 cond (cond (sameLook (.ld 2) [v11] h v12) true false) (
 (evFa 6 [x3]).bind fun v13 =>
 (evLd1 p8.2 [v13]).bind fun v14 =>
 cond (cond (sameLook .ld1 [v13] h v14) true false) (
 (evIa 2 [v14, x5]).bind fun v15 =>
 (evLd 2 p8.2 [v15]).bind fun v16 =>
 cond (cond (sameLook (.ld 2) [v15] h v16) true false) (
 (cf (pos 33) [v12, v16] p8.2).bind fun p17 =>
 (evEqb true [p8.1, p17.1]).bind fun v18 =>
 (cond (wantV false v18) ((evFa 6 [x3]).bind fun v82 => some v82) (some undefd)).bind fun v19 =>
 (cond (wantV false v18) ((evLd1 p17.2 [v19]).bind fun v81 => some v81) (some undefd)).bind fun v20 =>
 (cond (wantV false v18) (some x5) (some undefd)).bind fun v21 =>
 (cond (wantV false v18) ((evIa 2 [v20, v21]).bind fun v80 => some v80) (some undefd)).bind fun v22 =>
 (cond (wantV false v18) ((evLd 2 p17.2 [v22]).bind fun v79 => some v79) (some undefd)).bind fun v23 =>
 (cond (wantV false v18) ((evFa 6 [x2]).bind fun v78 => some v78) (some undefd)).bind fun v24 =>
 (cond (wantV false v18) ((evLd1 p17.2 [v24]).bind fun v77 => some v77) (some undefd)).bind fun v25 =>
 (cond (wantV false v18) (some x5) (some undefd)).bind fun v26 =>
 (cond (wantV false v18) ((evIa 2 [v25, v26]).bind fun v76 => some v76) (some undefd)).bind fun v27 =>
 (cond (wantV false v18) ((evLd 2 p17.2 [v27]).bind fun v75 => some v75) (some undefd)).bind fun v28 =>
 (cond (wantV false v18) ((cf (pos 32) [v23, v28] p17.2).bind fun p74 => cond (seenAgain 17179869183 p74.2 (consIf (wantV false v18) ⟨33, (.ld 2), [v27], v28⟩ (consIf (wantV false v18) ⟨30, .ld1, [v24], v25⟩ (consIf (wantV false v18) ⟨28, (.ld 2), [v22], v23⟩ (consIf (wantV false v18) ⟨25, .ld1, [v19], v20⟩ (⟨17, .ld1, [v13], v14⟩ :: (⟨15, (.ld 2), [v11], v12⟩ :: (⟨12, .ld1, [v9], v10⟩ :: (⟨9, (.ld 2), [v6], v7⟩ :: (⟨6, .ld1, [v4], v5⟩ :: (⟨4, (.ld 2), [v2], v3⟩ :: (⟨1, .ld1, [v0], v1⟩ :: [])))))))))))) (
 some p74) none) (some (undefd, p17.2))).bind fun p29 =>
 (cond (wantV false v18) ((evFa 6 [x3]).bind fun v73 => some v73) (some undefd)).bind fun v30 =>
 (cond (wantV false v18) ((evLd1 p29.2 [v30]).bind fun v72 => cond (seenBefore 34376515583 .ld1 [v30] v72 (consIf (wantV false v18) (34, p17.2) ((10, h) :: []))) (
 some v72) none) (some undefd)).bind fun v31 =>
 (cond (wantV false v18) (some x5) (some undefd)).bind fun v32 =>
 (cond (wantV false v18) ((evIa 2 [v31, v32]).bind fun v71 => some v71) (some undefd)).bind fun v33 =>
 (cond (wantV false v18) ((evLd 2 p29.2 [v33]).bind fun v70 => cond (seenBefore 515412852735 (.ld 2) [v33] v70 (consIf (wantV false v18) (34, p17.2) ((10, h) :: []))) (
 some v70) none) (some undefd)).bind fun v34 =>
 (cond (wantV false v18) ((evFa 6 [x2]).bind fun v69 => some v69) (some undefd)).bind fun v35 =>
 (cond (wantV false v18) ((evLd1 p29.2 [v35]).bind fun v68 => cond (seenBefore 1099528404991 .ld1 [v35] v68 (consIf (wantV false v18) (34, p17.2) ((10, h) :: []))) (
 some v68) none) (some undefd)).bind fun v36 =>
 (cond (wantV false v18) (some x5) (some undefd)).bind fun v37 =>
 (cond (wantV false v18) ((evIa 2 [v36, v37]).bind fun v67 => some v67) (some undefd)).bind fun v38 =>
 (cond (wantV false v18) ((evLd 2 p29.2 [v38]).bind fun v66 => cond (seenBefore 16492691193855 (.ld 2) [v38] v66 (consIf (wantV false v18) (34, p17.2) ((10, h) :: []))) (
 some v66) none) (some undefd)).bind fun v39 =>
 (cond (wantV false v18) ((cf (pos 33) [v34, v39] p29.2).bind fun p65 => cond (seenAgain 35184372088831 p65.2 (consIf (wantV false v18) ⟨41, .ld1, [v35], v36⟩ (consIf (wantV false v18) ⟨39, (.ld 2), [v33], v34⟩ (consIf (wantV false v18) ⟨36, .ld1, [v30], v31⟩ (consIf (wantV false v18) ⟨33, (.ld 2), [v27], v28⟩ (consIf (wantV false v18) ⟨30, .ld1, [v24], v25⟩ (consIf (wantV false v18) ⟨28, (.ld 2), [v22], v23⟩ (consIf (wantV false v18) ⟨25, .ld1, [v19], v20⟩ (⟨17, .ld1, [v13], v14⟩ :: (⟨15, (.ld 2), [v11], v12⟩ :: (⟨12, .ld1, [v9], v10⟩ :: (⟨9, (.ld 2), [v6], v7⟩ :: (⟨6, .ld1, [v4], v5⟩ :: (⟨4, (.ld 2), [v2], v3⟩ :: (⟨1, .ld1, [v0], v1⟩ :: []))))))))))))))) (
 some p65) none) (some (undefd, p29.2))).bind fun p40 =>
 (cond (wantV false v18) ((evEqb true [p29.1, p40.1]).bind fun v64 => some v64) (some undefd)).bind fun v41 =>
 (evPick [v18, (.b true), v41]).bind fun v42 =>
 (cond (wantV false v42) ((evFa 6 [x2]).bind fun v63 => some v63) (some undefd)).bind fun v43 =>
 (cond (wantV false v42) ((evLd1 p40.2 [v43]).bind fun v62 => cond (seenBefore 1125899906842623 .ld1 [v43] v62 (consIf (wantV false v18) (34, p17.2) ((10, h) :: []))) (
 some v62) none) (some undefd)).bind fun v44 =>
 (cond (wantV false v42) (some x5) (some undefd)).bind fun v45 =>
 (cond (wantV false v42) ((evIa 2 [v44, v45]).bind fun v61 => some v61) (some undefd)).bind fun v46 =>
 (cond (wantV false v42) ((evLd 2 p40.2 [v46]).bind fun v60 => cond (seenBefore 9007199254740991 (.ld 2) [v46] v60 (consIf (wantV false v18) (34, p17.2) ((10, h) :: []))) (
 some v60) none) (some undefd)).bind fun v47 =>
 (cond (wantV false v42) ((evFa 6 [x2]).bind fun v59 => some v59) (some undefd)).bind fun v48 =>
 (cond (wantV false v42) ((evLd1 p40.2 [v48]).bind fun v58 => cond (seenBefore 18577348462903295 .ld1 [v48] v58 (consIf (wantV false v18) (34, p17.2) ((10, h) :: []))) (
 some v58) none) (some undefd)).bind fun v49 =>
 (cond (wantV false v42) (some x5) (some undefd)).bind fun v50 =>
 (cond (wantV false v42) ((evIa 2 [v49, v50]).bind fun v57 => some v57) (some undefd)).bind fun v51 =>
 (cond (wantV false v42) ((evLd 2 p40.2 [v51]).bind fun v56 => cond (seenBefore 270778927595651071 (.ld 2) [v51] v56 (consIf (wantV false v18) (34, p17.2) ((10, h) :: []))) (
 some v56) none) (some undefd)).bind fun v52 =>
 (cond (wantV false v42) ((cf (pos 32) [v47, v52] p40.2).bind fun p55 => cond (seenAgain 576460752303423487 p55.2 (consIf (wantV false v42) ⟨55, .ld1, [v48], v49⟩ (consIf (wantV false v42) ⟨53, (.ld 2), [v46], v47⟩ (consIf (wantV false v42) ⟨50, .ld1, [v43], v44⟩ (consIf (wantV false v18) ⟨41, .ld1, [v35], v36⟩ (consIf (wantV false v18) ⟨39, (.ld 2), [v33], v34⟩ (consIf (wantV false v18) ⟨36, .ld1, [v30], v31⟩ (consIf (wantV false v18) ⟨33, (.ld 2), [v27], v28⟩ (consIf (wantV false v18) ⟨30, .ld1, [v24], v25⟩ (consIf (wantV false v18) ⟨28, (.ld 2), [v22], v23⟩ (consIf (wantV false v18) ⟨25, .ld1, [v19], v20⟩ (⟨17, .ld1, [v13], v14⟩ :: (⟨15, (.ld 2), [v11], v12⟩ :: (⟨12, .ld1, [v9], v10⟩ :: (⟨9, (.ld 2), [v6], v7⟩ :: (⟨6, .ld1, [v4], v5⟩ :: (⟨4, (.ld 2), [v2], v3⟩ :: (⟨1, .ld1, [v0], v1⟩ :: [])))))))))))))))))) (
 some p55) none) (some (undefd, p40.2))).bind fun p53 =>
 (evPick [v42, (.b true), p53.1]).bind fun v54 =>
 condR (
 some ((.b false), p53.2)) (
 jj cf 7 3 [x5, x3, x2] p53.2) v54) none) none) none) none :=
 (jj_eq ok7 cf 4 _ h).trans (by kernel_rfl)
/- join -/
theorem r7_3 (cf : CallF) (x5 x3 x2 : IV) (h : Hp) : jj cf 7 3 [x5, x3, x2] h =
 (evBin .add [x5, (.i .i64 1)]).bind fun v0 =>
 jj cf 7 2 [v0, x3, x2] h :=
 (jj_eq ok7 cf 3 _ h).trans (by kernel_rfl)

/- 29 floodgate/floodgateref09.Agree: 2 parameters -/
theorem ok29 : okk 29 = true := by kernel_rfl
theorem r29 (cf : CallF) (a0 a1 : IV) (h : Hp) : xx cf 29 [a0, a1] h =
 bl (.p (h).next 0) ((h).new (.cells (lenN (IV.cells a0)) (IV.cells a0))) fun v0 h1 =>
 bl (.p (h1).next 0) ((h1).new (.cells (lenN (IV.cells a1)) (IV.cells a1))) fun v2 h3 =>
 (evFa 0 [v0]).bind fun v4 =>
 (evLd 2 h3 [v4]).bind fun v5 =>
 (evFa 0 [v2]).bind fun v6 =>
 (evLd 2 h3 [v6]).bind fun v7 =>
 (cf (pos 41) [v5, v7] h3).bind fun p8 =>
 (evNot [p8.1]).bind fun v9 =>
 (cond (wantV false v9) (evFa 2 [v0]) (some undefd)).bind fun v10 =>
 (cond (wantV false v9) (evLd1 p8.2 [v10]) (some undefd)).bind fun v11 =>
 (cond (wantV false v9) (evFa 2 [v2]) (some undefd)).bind fun v12 =>
 (cond (wantV false v9) (evLd1 p8.2 [v12]) (some undefd)).bind fun v13 =>
 (cond (wantV false v9) (evBin .neq [v11, v13]) (some undefd)).bind fun v14 =>
 (evPick [v9, (.b true), v14]).bind fun v15 =>
 (cond (wantV false v15) (evFa 3 [v0]) (some undefd)).bind fun v16 =>
 (cond (wantV false v15) (evLd1 p8.2 [v16]) (some undefd)).bind fun v17 =>
 (cond (wantV false v15) (evFa 3 [v2]) (some undefd)).bind fun v18 =>
 (cond (wantV false v15) (evLd1 p8.2 [v18]) (some undefd)).bind fun v19 =>
 (cond (wantV false v15) (evBin .neq [v17, v19]) (some undefd)).bind fun v20 =>
 (evPick [v15, (.b true), v20]).bind fun v21 =>
 (cond (wantV false v21) (evFa 4 [v0]) (some undefd)).bind fun v22 =>
 (cond (wantV false v21) (evLd1 p8.2 [v22]) (some undefd)).bind fun v23 =>
 (cond (wantV false v21) (evFa 4 [v2]) (some undefd)).bind fun v24 =>
 (cond (wantV false v21) (evLd1 p8.2 [v24]) (some undefd)).bind fun v25 =>
 (cond (wantV false v21) (evBin .neq [v23, v25]) (some undefd)).bind fun v26 =>
 (evPick [v21, (.b true), v26]).bind fun v27 =>
 (cond (wantV false v27) (evFa 6 [v0]) (some undefd)).bind fun v28 =>
 (cond (wantV false v27) (evLd1 p8.2 [v28]) (some undefd)).bind fun v29 =>
 (cond (wantV false v27) (evLens [v29]) (some undefd)).bind fun v30 =>
 (cond (wantV false v27) (evFa 6 [v2]) (some undefd)).bind fun v31 =>
 (cond (wantV false v27) (evLd1 p8.2 [v31]) (some undefd)).bind fun v32 =>
 (cond (wantV false v27) (evLens [v32]) (some undefd)).bind fun v33 =>
 (cond (wantV false v27) (evBin .neq [v30, v33]) (some undefd)).bind fun v34 =>
 (evPick [v27, (.b true), v34]).bind fun v35 =>
 condR (
 some ((.b false), p8.2)) (
 jj cf 29 5 [v0, v2] p8.2) v35 := by kernel_rfl
/- join -/
theorem r29_5 (cf : CallF) (x2 x3 : IV) (h : Hp) : jj cf 29 5 [x2, x3] h =
 jj cf 29 2 [x2, x3, (.i .i64 0)] h :=
 (jj_eq ok29 cf 5 _ h).trans (by kernel_rfl)
/- join -/
theorem r29_1 (cf : CallF) (h : Hp) : jj cf 29 1 [] h =
 some ((.b true), h) :=
 (jj_eq ok29 cf 1 _ h).trans (by kernel_rfl)
/- loop -/
theorem r29_2 (cf : CallF) (x2 x3 x5 : IV) (h : Hp) : jj cf 29 2 [x2, x3, x5] h =
 (evFa 6 [x2]).bind fun v0 =>
 (evLd1 h [v0]).bind fun v1 =>
 (evLens [v1]).bind fun v2 =>
 (evBin .lss [x5, v2]).bind fun v3 =>
 condR (
 jj cf 29 4 [x5, x2, x3] h) (
 jj cf 29 1 [] h) v3 :=
 (jj_eq ok29 cf 2 _ h).trans (by kernel_rfl)
/- join -/
theorem r29_4 (cf : CallF) (x5 x2 x3 : IV) (h : Hp) : jj cf 29 4 [x5, x2, x3] h =
 (evFa 6 [x2]).bind fun v0 =>
 (evLd1 h [v0]).bind fun v1 =>
 (evIa 2 [v1, x5]).bind fun v2 =>
 (evFa 1 [v2]).bind fun v3 =>
 (evLd1 h [v3]).bind fun v4 =>
 (evFa 6 [x3]).bind fun v5 =>
 (evLd1 h [v5]).bind fun v6 =>
 (evIa 2 [v6, x5]).bind fun v7 =>
 (evFa 1 [v7]).bind fun v8 =>
 (evLd1 h [v8]).bind fun v9 =>
 (evBin .neq [v4, v9]).bind fun v10 =>
 (cond (wantV false v10) ((evFa 6 [x2]).bind fun v37 => some v37) (some undefd)).bind fun v11 =>
 (cond (wantV false v10) ((evLd1 h [v11]).bind fun v36 => some v36) (some undefd)).bind fun v12 =>
 (cond (wantV false v10) (some x5) (some undefd)).bind fun v13 =>
 (cond (wantV false v10) ((evIa 2 [v12, v13]).bind fun v35 => some v35) (some undefd)).bind fun v14 =>
 (cond (wantV false v10) ((evFa 0 [v14]).bind fun v34 => some v34) (some undefd)).bind fun v15 =>
 (cond (wantV false v10) ((evLd1 h [v15]).bind fun v33 => some v33) (some undefd)).bind fun v16 =>
 (cond (wantV false v10) ((evFa 6 [x3]).bind fun v32 => some v32) (some undefd)).bind fun v17 =>
 (cond (wantV false v10) ((evLd1 h [v17]).bind fun v31 => some v31) (some undefd)).bind fun v18 =>
 (cond (wantV false v10) (some x5) (some undefd)).bind fun v19 =>
 (cond (wantV false v10) ((evIa 2 [v18, v19]).bind fun v30 => some v30) (some undefd)).bind fun v20 =>
 (cond (wantV false v10) ((evFa 0 [v20]).bind fun v29 => some v29) (some undefd)).bind fun v21 =>
 (cond (wantV false v10) ((evLd1 h [v21]).bind fun v28 => some v28) (some undefd)).bind fun v22 =>
 (cond (wantV false v10) ((cf (pos 40) [v16, v22] h).bind fun p27 => cond (seenAgain 67108863 p27.2 (consIf (wantV false v10) ⟨21, .ld1, [v17], v18⟩ (consIf (wantV false v10) ⟨19, .ld1, [v15], v16⟩ (consIf (wantV false v10) ⟨15, .ld1, [v11], v12⟩ (⟨7, .ld1, [v5], v6⟩ :: (⟨5, .ld1, [v3], v4⟩ :: (⟨1, .ld1, [v0], v1⟩ :: []))))))) (
 some p27) none) (some (undefd, h))).bind fun p23 =>
 (cond (wantV false v10) ((evNot [p23.1]).bind fun v26 => some v26) (some undefd)).bind fun v24 =>
 (evPick [v10, (.b true), v24]).bind fun v25 =>
 condR (
 some ((.b false), p23.2)) (
 jj cf 29 3 [x5, x2, x3] p23.2) v25 :=
 (jj_eq ok29 cf 4 _ h).trans (by kernel_rfl)
/- join -/
theorem r29_3 (cf : CallF) (x5 x2 x3 : IV) (h : Hp) : jj cf 29 3 [x5, x2, x3] h =
 (evBin .add [x5, (.i .i64 1)]).bind fun v0 =>
 jj cf 29 2 [x2, x3, v0] h :=
 (jj_eq ok29 cf 3 _ h).trans (by kernel_rfl)

/- 30 floodgate/closure.Agree: 2 parameters -/
theorem ok30 : okk 30 = true := by kernel_rfl
theorem r30 (cf : CallF) (a0 a1 : IV) (h : Hp) : xx cf 30 [a0, a1] h =
 bl (.p (h).next 0) ((h).new (.cells (lenN (IV.cells a0)) (IV.cells a0))) fun v0 h1 =>
 bl (.p (h1).next 0) ((h1).new (.cells (lenN (IV.cells a1)) (IV.cells a1))) fun v2 h3 =>
 (evFa 0 [v0]).bind fun v4 =>
 (evFa 0 [v4]).bind fun v5 =>
 (evLd1 h3 [v5]).bind fun v6 =>
 (evFa 0 [v2]).bind fun v7 =>
 (evFa 0 [v7]).bind fun v8 =>
 (evLd1 h3 [v8]).bind fun v9 =>
 (cf (pos 80) [v6, v9] h3).bind fun p10 =>
 (cond (wantV true p10.1) (evFa 0 [v0]) (some undefd)).bind fun v11 =>
 (cond (wantV true p10.1) (evFa 1 [v11]) (some undefd)).bind fun v12 =>
 (cond (wantV true p10.1) (evLd1 p10.2 [v12]) (some undefd)).bind fun v13 =>
 (cond (wantV true p10.1) (evFa 0 [v2]) (some undefd)).bind fun v14 =>
 (cond (wantV true p10.1) (evFa 1 [v14]) (some undefd)).bind fun v15 =>
 (cond (wantV true p10.1) (evLd1 p10.2 [v15]) (some undefd)).bind fun v16 =>
 (cond (wantV true p10.1) (cf (pos 81) [v13, v16, (.f (pos 80) [])] p10.2) (some (undefd, p10.2))).bind fun p17 =>
 (evPick [p10.1, p17.1, (.b false)]).bind fun v18 =>
 (evFa 6 [v0]).bind fun v19 =>
 (evLd1 p17.2 [v19]).bind fun v20 =>
 (evFa 6 [v2]).bind fun v21 =>
 (evLd1 p17.2 [v21]).bind fun v22 =>
 (cf (pos 82) [v20, v22, (.f (pos 83) [])] p17.2).bind fun p23 =>
 (cond (wantV true v18) (some p23.1) (some undefd)).bind fun v24 =>
 (evPick [v18, v24, (.b false)]).bind fun v25 =>
 (cond (wantV true v25) (evFa 2 [v0]) (some undefd)).bind fun v26 =>
 (cond (wantV true v25) (evLd1 p23.2 [v26]) (some undefd)).bind fun v27 =>
 (cond (wantV true v25) (evFa 2 [v2]) (some undefd)).bind fun v28 =>
 (cond (wantV true v25) (evLd1 p23.2 [v28]) (some undefd)).bind fun v29 =>
 (cond (wantV true v25) (evBin .eql [v27, v29]) (some undefd)).bind fun v30 =>
 (evPick [v25, v30, (.b false)]).bind fun v31 =>
 (cond (wantV true v31) (evFa 3 [v0]) (some undefd)).bind fun v32 =>
 (cond (wantV true v31) (evLd1 p23.2 [v32]) (some undefd)).bind fun v33 =>
 (cond (wantV true v31) (evFa 3 [v2]) (some undefd)).bind fun v34 =>
 (cond (wantV true v31) (evLd1 p23.2 [v34]) (some undefd)).bind fun v35 =>
 (cond (wantV true v31) (evBin .eql [v33, v35]) (some undefd)).bind fun v36 =>
 (evPick [v31, v36, (.b false)]).bind fun v37 =>
 (cond (wantV true v37) (evFa 4 [v0]) (some undefd)).bind fun v38 =>
 (cond (wantV true v37) (evLd1 p23.2 [v38]) (some undefd)).bind fun v39 =>
 (cond (wantV true v37) (evFa 4 [v2]) (some undefd)).bind fun v40 =>
 (cond (wantV true v37) (evLd1 p23.2 [v40]) (some undefd)).bind fun v41 =>
 (cond (wantV true v37) (evBin .eql [v39, v41]) (some undefd)).bind fun v42 =>
 (evPick [v37, v42, (.b false)]).bind fun v43 =>
 some (v43, p23.2) := by kernel_rfl

/- 31 floodgate/floodgatelaw09.thinOutcome: 1 parameters -/
theorem ok31 : okk 31 = true := by kernel_rfl
theorem r31 (cf : CallF) (a0 : IV) (h : Hp) : xx cf 31 [a0] h =
 bl (.p (h).next 0) ((h).new (.cells (lenN (IV.cells a0)) (IV.cells a0))) fun v0 h1 =>
 (evFa 6 [v0]).bind fun v2 =>
 (evLd1 h1 [v2]).bind fun v3 =>
 (evLens [v3]).bind fun v4 =>
 (evBin .gtr [v4, (.i .i64 12)]).bind fun v5 =>
 (cond (wantV false v5) (evFa 0 [v0]) (some undefd)).bind fun v6 =>
 (cond (wantV false v5) (evFa 0 [v6]) (some undefd)).bind fun v7 =>
 (cond (wantV false v5) (evLd1 h1 [v7]) (some undefd)).bind fun v8 =>
 (cond (wantV false v5) (evLens [v8]) (some undefd)).bind fun v9 =>
 (cond (wantV false v5) (evBin .gtr [v9, (.i .i64 20)]) (some undefd)).bind fun v10 =>
 (evPick [v5, (.b true), v10]).bind fun v11 =>
 (cond (wantV false v11) (evFa 0 [v0]) (some undefd)).bind fun v12 =>
 (cond (wantV false v11) (evFa 1 [v12]) (some undefd)).bind fun v13 =>
 (cond (wantV false v11) (evLd1 h1 [v13]) (some undefd)).bind fun v14 =>
 (cond (wantV false v11) (evLens [v14]) (some undefd)).bind fun v15 =>
 (cond (wantV false v11) (evBin .gtr [v15, (.i .i64 20)]) (some undefd)).bind fun v16 =>
 (evPick [v11, (.b true), v16]).bind fun v17 =>
 condR (
 some ((.b false), h1)) (
 jj cf 31 9 [v0] h1) v17 := by kernel_rfl
/- join -/
theorem r31_9 (cf : CallF) (x1 : IV) (h : Hp) : jj cf 31 9 [x1] h =
 jj cf 31 6 [(.i .i64 0), x1] h :=
 (jj_eq ok31 cf 9 _ h).trans (by kernel_rfl)
/- join -/
theorem r31_5 (cf : CallF) (x1 : IV) (h : Hp) : jj cf 31 5 [x1] h =
 jj cf 31 2 [x1, (.i .i64 0)] h :=
 (jj_eq ok31 cf 5 _ h).trans (by kernel_rfl)
/- loop -/
theorem r31_6 (cf : CallF) (x3 x1 : IV) (h : Hp) : jj cf 31 6 [x3, x1] h =
 (evFa 0 [x1]).bind fun v0 =>
 (evFa 1 [v0]).bind fun v1 =>
 (evLd1 h [v1]).bind fun v2 =>
 (evLens [v2]).bind fun v3 =>
 (evBin .lss [x3, v3]).bind fun v4 =>
 condR (
 jj cf 31 8 [x3, x1] h) (
 jj cf 31 5 [x1] h) v4 :=
 (jj_eq ok31 cf 6 _ h).trans (by kernel_rfl)
/- join -/
theorem r31_8 (cf : CallF) (x3 x1 : IV) (h : Hp) : jj cf 31 8 [x3, x1] h =
 (evFa 0 [x1]).bind fun v0 =>
 (evFa 1 [v0]).bind fun v1 =>
 (evLd1 h [v1]).bind fun v2 =>
 (evIa 1 [v2, x3]).bind fun v3 =>
 (evLd1 h [v3]).bind fun v4 =>
 (evLens [v4]).bind fun v5 =>
 (evBin .gtr [v5, (.i .i64 30)]).bind fun v6 =>
 condR (
 some ((.b false), h)) (
 jj cf 31 7 [x3, x1] h) v6 :=
 (jj_eq ok31 cf 8 _ h).trans (by kernel_rfl)
/- join -/
theorem r31_7 (cf : CallF) (x3 x1 : IV) (h : Hp) : jj cf 31 7 [x3, x1] h =
 (evBin .add [x3, (.i .i64 1)]).bind fun v0 =>
 jj cf 31 6 [v0, x1] h :=
 (jj_eq ok31 cf 7 _ h).trans (by kernel_rfl)
/- join -/
theorem r31_1 (cf : CallF) (h : Hp) : jj cf 31 1 [] h =
 some ((.b true), h) :=
 (jj_eq ok31 cf 1 _ h).trans (by kernel_rfl)
/- loop -/
theorem r31_2 (cf : CallF) (x1 x4 : IV) (h : Hp) : jj cf 31 2 [x1, x4] h =
 (evFa 6 [x1]).bind fun v0 =>
 (evLd1 h [v0]).bind fun v1 =>
 (evLens [v1]).bind fun v2 =>
 (evBin .lss [x4, v2]).bind fun v3 =>
 condR (
 jj cf 31 4 [x4, x1] h) (
 jj cf 31 1 [] h) v3 :=
 (jj_eq ok31 cf 2 _ h).trans (by kernel_rfl)
/- join -/
theorem r31_4 (cf : CallF) (x4 x1 : IV) (h : Hp) : jj cf 31 4 [x4, x1] h =
 (evFa 6 [x1]).bind fun v0 =>
 (evLd1 h [v0]).bind fun v1 =>
 (evIa 2 [v1, x4]).bind fun v2 =>
 (evFa 0 [v2]).bind fun v3 =>
 (evLd1 h [v3]).bind fun v4 =>
 (evLens [v4]).bind fun v5 =>
 (evBin .gtr [v5, (.i .i64 8)]).bind fun v6 =>
 condR (
 some ((.b false), h)) (
 jj cf 31 3 [x4, x1] h) v6 :=
 (jj_eq ok31 cf 4 _ h).trans (by kernel_rfl)
/- join -/
theorem r31_3 (cf : CallF) (x4 x1 : IV) (h : Hp) : jj cf 31 3 [x4, x1] h =
 (evBin .add [x4, (.i .i64 1)]).bind fun v0 =>
 jj cf 31 2 [x1, v0] h :=
 (jj_eq ok31 cf 3 _ h).trans (by kernel_rfl)

/- 32 floodgate/closure.Less: 2 parameters -/
theorem ok32 : okk 32 = true := by kernel_rfl
theorem r32 (cf : CallF) (a0 a1 : IV) (h : Hp) : xx cf 32 [a0, a1] h =
 bl (.p (h).next 0) ((h).new (.cells (lenN (IV.cells a0)) (IV.cells a0))) fun v0 h1 =>
 bl (.p (h1).next 0) ((h1).new (.cells (lenN (IV.cells a1)) (IV.cells a1))) fun v2 h3 =>
 (evLd 2 h3 [v0]).bind fun v4 =>
 (evLd 2 h3 [v2]).bind fun v5 =>
 (cf (pos 84) [v4, v5] h3).bind fun p6 =>
 (evBin .lss [p6.1, (.i .i64 0)]).bind fun v7 =>
 some (v7, p6.2) := by kernel_rfl

/- 33 floodgate/floodgateref09.Less: 2 parameters -/
theorem ok33 : okk 33 = true := by kernel_rfl
theorem r33 (cf : CallF) (a0 a1 : IV) (h : Hp) : xx cf 33 [a0, a1] h =
 bl (.p (h).next 0) ((h).new (.cells (lenN (IV.cells a0)) (IV.cells a0))) fun v0 h1 =>
 bl (.p (h1).next 0) ((h1).new (.cells (lenN (IV.cells a1)) (IV.cells a1))) fun v2 h3 =>
 jj cf 33 3 [(.i .i64 0), v0, v2] h3 := by kernel_rfl
/- join -/
theorem r33_2 (cf : CallF) (x2 x3 : IV) (h : Hp) : jj cf 33 2 [x2, x3] h =
 (evFa 0 [x2]).bind fun v0 =>
 (evLd1 h [v0]).bind fun v1 =>
 (evLens [v1]).bind fun v2 =>
 (evFa 0 [x3]).bind fun v3 =>
 (evLd1 h [v3]).bind fun v4 =>
 (evLens [v4]).bind fun v5 =>
 (evBin .neq [v2, v5]).bind fun v6 =>
 condR (
 (evFa 0 [x2]).bind fun v7 =>
 (evLd1 h [v7]).bind fun v8 =>
 (evLens [v8]).bind fun v9 =>
 (evFa 0 [x3]).bind fun v10 =>
 (evLd1 h [v10]).bind fun v11 =>
 (evLens [v11]).bind fun v12 =>
 (evBin .lss [v9, v12]).bind fun v13 =>
 some (v13, h)) (
 jj cf 33 1 [x2, x3] h) v6 :=
 (jj_eq ok33 cf 2 _ h).trans (by kernel_rfl)
/- loop -/
theorem r33_3 (cf : CallF) (x5 x2 x3 : IV) (h : Hp) : jj cf 33 3 [x5, x2, x3] h =
 (evFa 0 [x2]).bind fun v0 =>
 (evLd1 h [v0]).bind fun v1 =>
 (evLens [v1]).bind fun v2 =>
 (evBin .lss [x5, v2]).bind fun v3 =>
 (cond (wantV true v3) (some x5) (some undefd)).bind fun v4 =>
 (cond (wantV true v3) (evFa 0 [x3]) (some undefd)).bind fun v5 =>
 (cond (wantV true v3) (evLd1 h [v5]) (some undefd)).bind fun v6 =>
 (cond (wantV true v3) (evLens [v6]) (some undefd)).bind fun v7 =>
 (cond (wantV true v3) (evBin .lss [v4, v7]) (some undefd)).bind fun v8 =>
 (evPick [v3, v8, (.b false)]).bind fun v9 =>
 condR (
 jj cf 33 6 [x5, x2, x3] h) (
 jj cf 33 2 [x2, x3] h) v9 :=
 (jj_eq ok33 cf 3 _ h).trans (by kernel_rfl)
/- join -/
theorem r33_6 (cf : CallF) (x5 x2 x3 : IV) (h : Hp) : jj cf 33 6 [x5, x2, x3] h =
 (evFa 0 [x2]).bind fun v0 =>
 (evLd1 h [v0]).bind fun v1 =>
 (evIa 2 [v1, x5]).bind fun v2 =>
 (evLd 2 h [v2]).bind fun v3 =>
 (evFa 0 [x3]).bind fun v4 =>
 (evLd1 h [v4]).bind fun v5 =>
 (evIa 2 [v5, x5]).bind fun v6 =>
 (evLd 2 h [v6]).bind fun v7 =>
 bl (.p (h).next 0) ((h).new (.cells 2 [(.i .i64 0), (.i .i64 0)])) fun v8 h9 =>
 bl (.p (h9).next 0) ((h9).new (.cells 2 [(.i .i64 0), (.i .i64 0)])) fun v10 h11 =>
 (efSt 2 h11 [v8, v3]).bind fun p12 =>
 cond (cond (sameLook (.ld 2) [v6] p12.2 v7) (cond (sameLook .ld1 [v4] p12.2 v5) true false) false) (
 (efSt 2 p12.2 [v10, v7]).bind fun p13 =>
 (evFa 0 [v8]).bind fun v14 =>
 (evLd1 p13.2 [v14]).bind fun v15 =>
 (evFa 0 [v10]).bind fun v16 =>
 (evLd1 p13.2 [v16]).bind fun v17 =>
 (evBin .neq [v15, v17]).bind fun v18 =>
 condR (
 (evFa 0 [v8]).bind fun v19 =>
 (evLd1 p13.2 [v19]).bind fun v20 =>
 (evFa 0 [v10]).bind fun v21 =>
 (evLd1 p13.2 [v21]).bind fun v22 =>
 (evBin .lss [v20, v22]).bind fun v23 =>
 some (v23, p13.2)) (
 jj cf 33 5 [v8, v10, x5, x2, x3] p13.2) v18) none :=
 (jj_eq ok33 cf 6 _ h).trans (by kernel_rfl)
/- join -/
theorem r33_4 (cf : CallF) (x5 x2 x3 : IV) (h : Hp) : jj cf 33 4 [x5, x2, x3] h =
 (evBin .add [x5, (.i .i64 1)]).bind fun v0 =>
 jj cf 33 3 [v0, x2, x3] h :=
 (jj_eq ok33 cf 4 _ h).trans (by kernel_rfl)
/- join -/
theorem r33_5 (cf : CallF) (x6 x7 x5 x2 x3 : IV) (h : Hp) : jj cf 33 5 [x6, x7, x5, x2, x3] h =
 (evFa 1 [x6]).bind fun v0 =>
 (evLd1 h [v0]).bind fun v1 =>
 (evFa 1 [x7]).bind fun v2 =>
 (evLd1 h [v2]).bind fun v3 =>
 (evBin .neq [v1, v3]).bind fun v4 =>
 condR (
 (evFa 1 [x6]).bind fun v5 =>
 (evLd1 h [v5]).bind fun v6 =>
 (evFa 1 [x7]).bind fun v7 =>
 (evLd1 h [v7]).bind fun v8 =>
 (evBin .lss [v6, v8]).bind fun v9 =>
 some (v9, h)) (
 jj cf 33 4 [x5, x2, x3] h) v4 :=
 (jj_eq ok33 cf 5 _ h).trans (by kernel_rfl)
/- join -/
theorem r33_1 (cf : CallF) (x2 x3 : IV) (h : Hp) : jj cf 33 1 [x2, x3] h =
 (evFa 1 [x2]).bind fun v0 =>
 (evLd1 h [v0]).bind fun v1 =>
 (evFa 1 [x3]).bind fun v2 =>
 (evLd1 h [v2]).bind fun v3 =>
 (evBin .lss [v1, v3]).bind fun v4 =>
 some (v4, h) :=
 (jj_eq ok33 cf 1 _ h).trans (by kernel_rfl)

/- 40 floodgate/floodgateref09.SamePath: 2 parameters -/
theorem ok40 : okk 40 = true := by kernel_rfl
theorem r40 (cf : CallF) (a0 a1 : IV) (h : Hp) : xx cf 40 [a0, a1] h =
 (evLens [a0]).bind fun v0 =>
 (evLens [a1]).bind fun v1 =>
 (evBin .neq [v0, v1]).bind fun v2 =>
 condR (
 some ((.b false), h)) (
 jj cf 40 5 [a0, a1] h) v2 := by kernel_rfl
/- join -/
theorem r40_5 (cf : CallF) (x0 x1 : IV) (h : Hp) : jj cf 40 5 [x0, x1] h =
 jj cf 40 2 [x0, x1, (.i .i64 0)] h :=
 (jj_eq ok40 cf 5 _ h).trans (by kernel_rfl)
/- join -/
theorem r40_1 (cf : CallF) (h : Hp) : jj cf 40 1 [] h =
 some ((.b true), h) :=
 (jj_eq ok40 cf 1 _ h).trans (by kernel_rfl)
/- loop -/
theorem r40_2 (cf : CallF) (x0 x1 x5 : IV) (h : Hp) : jj cf 40 2 [x0, x1, x5] h =
 (evLens [x0]).bind fun v0 =>
 (evBin .lss [x5, v0]).bind fun v1 =>
 condR (
 jj cf 40 4 [x5, x0, x1] h) (
 jj cf 40 1 [] h) v1 :=
 (jj_eq ok40 cf 2 _ h).trans (by kernel_rfl)
/- join -/
theorem r40_4 (cf : CallF) (x5 x0 x1 : IV) (h : Hp) : jj cf 40 4 [x5, x0, x1] h =
 (evIa 2 [x0, x5]).bind fun v0 =>
 (evLd 2 h [v0]).bind fun v1 =>
 (evIa 2 [x1, x5]).bind fun v2 =>
 (evLd 2 h [v2]).bind fun v3 =>
 (evEqa true [0, 0] [v1, v3]).bind fun v4 =>
 condR (
 some ((.b false), h)) (
 jj cf 40 3 [x5, x0, x1] h) v4 :=
 (jj_eq ok40 cf 4 _ h).trans (by kernel_rfl)
/- join -/
theorem r40_3 (cf : CallF) (x5 x0 x1 : IV) (h : Hp) : jj cf 40 3 [x5, x0, x1] h =
 (evBin .add [x5, (.i .i64 1)]).bind fun v0 =>
 jj cf 40 2 [x0, x1, v0] h :=
 (jj_eq ok40 cf 3 _ h).trans (by kernel_rfl)

/- 41 floodgate/floodgateref06.SamePicture: 2 parameters -/
theorem ok41 : okk 41 = true := by kernel_rfl
theorem r41 (cf : CallF) (a0 a1 : IV) (h : Hp) : xx cf 41 [a0, a1] h =
 bl (.p (h).next 0) ((h).new (.cells (lenN (IV.cells a0)) (IV.cells a0))) fun v0 h1 =>
 bl (.p (h1).next 0) ((h1).new (.cells (lenN (IV.cells a1)) (IV.cells a1))) fun v2 h3 =>
 (evFa 0 [v0]).bind fun v4 =>
 (evLd1 h3 [v4]).bind fun v5 =>
 (evFa 0 [v2]).bind fun v6 =>
 (evLd1 h3 [v6]).bind fun v7 =>
 (cf (pos 96) [v5, v7] h3).bind fun p8 =>
 (evNot [p8.1]).bind fun v9 =>
 (cond (wantV false v9) (evFa 1 [v0]) (some undefd)).bind fun v10 =>
 (cond (wantV false v9) (evLd1 p8.2 [v10]) (some undefd)).bind fun v11 =>
 (cond (wantV false v9) (evLens [v11]) (some undefd)).bind fun v12 =>
 (cond (wantV false v9) (evFa 1 [v2]) (some undefd)).bind fun v13 =>
 (cond (wantV false v9) (evLd1 p8.2 [v13]) (some undefd)).bind fun v14 =>
 (cond (wantV false v9) (evLens [v14]) (some undefd)).bind fun v15 =>
 (cond (wantV false v9) (evBin .neq [v12, v15]) (some undefd)).bind fun v16 =>
 (evPick [v9, (.b true), v16]).bind fun v17 =>
 condR (
 some ((.b false), p8.2)) (
 jj cf 41 5 [v0, v2] p8.2) v17 := by kernel_rfl
/- join -/
theorem r41_5 (cf : CallF) (x2 x3 : IV) (h : Hp) : jj cf 41 5 [x2, x3] h =
 jj cf 41 2 [x2, x3, (.i .i64 0)] h :=
 (jj_eq ok41 cf 5 _ h).trans (by kernel_rfl)
/- join -/
theorem r41_1 (cf : CallF) (h : Hp) : jj cf 41 1 [] h =
 some ((.b true), h) :=
 (jj_eq ok41 cf 1 _ h).trans (by kernel_rfl)
/- loop -/
theorem r41_2 (cf : CallF) (x2 x3 x5 : IV) (h : Hp) : jj cf 41 2 [x2, x3, x5] h =
 (evFa 1 [x2]).bind fun v0 =>
 (evLd1 h [v0]).bind fun v1 =>
 (evLens [v1]).bind fun v2 =>
 (evBin .lss [x5, v2]).bind fun v3 =>
 condR (
 jj cf 41 4 [x5, x2, x3] h) (
 jj cf 41 1 [] h) v3 :=
 (jj_eq ok41 cf 2 _ h).trans (by kernel_rfl)
/- join -/
theorem r41_4 (cf : CallF) (x5 x2 x3 : IV) (h : Hp) : jj cf 41 4 [x5, x2, x3] h =
 (evFa 1 [x2]).bind fun v0 =>
 (evLd1 h [v0]).bind fun v1 =>
 (evIa 1 [v1, x5]).bind fun v2 =>
 (evLd1 h [v2]).bind fun v3 =>
 (evFa 1 [x3]).bind fun v4 =>
 (evLd1 h [v4]).bind fun v5 =>
 (evIa 1 [v5, x5]).bind fun v6 =>
 (evLd1 h [v6]).bind fun v7 =>
 (cf (pos 96) [v3, v7] h).bind fun p8 =>
 (evNot [p8.1]).bind fun v9 =>
 condR (
 some ((.b false), p8.2)) (
 jj cf 41 3 [x5, x2, x3] p8.2) v9 :=
 (jj_eq ok41 cf 4 _ h).trans (by kernel_rfl)
/- join -/
theorem r41_3 (cf : CallF) (x5 x2 x3 : IV) (h : Hp) : jj cf 41 3 [x5, x2, x3] h =
 (evBin .add [x5, (.i .i64 1)]).bind fun v0 =>
 jj cf 41 2 [x2, x3, v0] h :=
 (jj_eq ok41 cf 3 _ h).trans (by kernel_rfl)

/- 80 slices.Equal[[]floodgate/api.Value,floodgate/api.Value]: 2 parameters -/
theorem ok80 : okk 80 = true := by kernel_rfl
theorem r80 (cf : CallF) (a0 a1 : IV) (h : Hp) : xx cf 80 [a0, a1] h =
 (evLens [a0]).bind fun v0 =>
 (evLens [a1]).bind fun v1 =>
 (evBin .neq [v0, v1]).bind fun v2 =>
 condR (
 some ((.b false), h)) (
 jj cf 80 5 [a0, a1] h) v2 := by kernel_rfl
/- join -/
theorem r80_5 (cf : CallF) (x0 x1 : IV) (h : Hp) : jj cf 80 5 [x0, x1] h =
 (evLens [x0]).bind fun v0 =>
 jj cf 80 2 [v0, x0, x1, (.i .i64 0)] h :=
 (jj_eq ok80 cf 5 _ h).trans (by kernel_rfl)
/- join -/
theorem r80_1 (cf : CallF) (h : Hp) : jj cf 80 1 [] h =
 some ((.b true), h) :=
 (jj_eq ok80 cf 1 _ h).trans (by kernel_rfl)
/- loop -/
theorem r80_2 (cf : CallF) (x12 x0 x1 x13 : IV) (h : Hp) : jj cf 80 2 [x12, x0, x1, x13] h =
 (evBin .lss [x13, x12]).bind fun v0 =>
 condR (
 jj cf 80 4 [x13, x12, x0, x1] h) (
 jj cf 80 1 [] h) v0 :=
 (jj_eq ok80 cf 2 _ h).trans (by kernel_rfl)
/- join -/
theorem r80_4 (cf : CallF) (x13 x12 x0 x1 : IV) (h : Hp) : jj cf 80 4 [x13, x12, x0, x1] h =
 (evIa 2 [x0, x13]).bind fun v0 =>
 (evLd 2 h [v0]).bind fun v1 =>
 (evIa 2 [x1, x13]).bind fun v2 =>
 (evLd 2 h [v2]).bind fun v3 =>
 (evEqa true [0, 0] [v1, v3]).bind fun v4 =>
 condR (
 some ((.b false), h)) (
 jj cf 80 3 [x13, x12, x0, x1] h) v4 :=
 (jj_eq ok80 cf 4 _ h).trans (by kernel_rfl)
/- join -/
theorem r80_3 (cf : CallF) (x13 x12 x0 x1 : IV) (h : Hp) : jj cf 80 3 [x13, x12, x0, x1] h =
 (evBin .add [x13, (.i .i64 1)]).bind fun v0 =>
 jj cf 80 2 [x12, x0, x1, v0] h :=
 (jj_eq ok80 cf 3 _ h).trans (by kernel_rfl)

/- 81 slices.EqualFunc[[][]floodgate/api.Value,[][]floodgate/api.Value,[]floodgate/api.Value,[]floodgate/api.Value]: 3 parameters -/
theorem ok81 : okk 81 = true := by kernel_rfl
theorem r81 (cf : CallF) (a0 a1 a2 : IV) (h : Hp) : xx cf 81 [a0, a1, a2] h =
 (evLens [a0]).bind fun v0 =>
 (evLens [a1]).bind fun v1 =>
 (evBin .neq [v0, v1]).bind fun v2 =>
 condR (
 some ((.b false), h)) (
 jj cf 81 5 [a0, a1, a2] h) v2 := by kernel_rfl
/- join -/
theorem r81_5 (cf : CallF) (x0 x1 x2 : IV) (h : Hp) : jj cf 81 5 [x0, x1, x2] h =
 (evLens [x0]).bind fun v0 =>
 jj cf 81 2 [v0, x0, x1, x2, (.i .i64 0)] h :=
 (jj_eq ok81 cf 5 _ h).trans (by kernel_rfl)
/- join -/
theorem r81_1 (cf : CallF) (h : Hp) : jj cf 81 1 [] h =
 some ((.b true), h) :=
 (jj_eq ok81 cf 1 _ h).trans (by kernel_rfl)
/- loop -/
theorem r81_2 (cf : CallF) (x16 x15 x1 x2 x17 : IV) (h : Hp) : jj cf 81 2 [x16, x15, x1, x2, x17] h =
 (evBin .lss [x17, x16]).bind fun v0 =>
 condR (
 jj cf 81 4 [x17, x16, x15, x1, x2] h) (
 jj cf 81 1 [] h) v0 :=
 (jj_eq ok81 cf 2 _ h).trans (by kernel_rfl)
/- join -/
theorem r81_4 (cf : CallF) (x17 x16 x15 x1 x2 : IV) (h : Hp) : jj cf 81 4 [x17, x16, x15, x1, x2] h =
 (evIa 1 [x15, x17]).bind fun v0 =>
 (evLd1 h [v0]).bind fun v1 =>
 (evIa 1 [x1, x17]).bind fun v2 =>
 (evLd1 h [v2]).bind fun v3 =>
 (exCall cf x2 [v1, v3] h).bind fun p4 =>
 (evNot [p4.1]).bind fun v5 =>
 condR (
 some ((.b false), p4.2)) (
 jj cf 81 3 [x17, x16, x15, x1, x2] p4.2) v5 :=
 (jj_eq ok81 cf 4 _ h).trans (by kernel_rfl)
/- join -/
theorem r81_3 (cf : CallF) (x17 x16 x15 x1 x2 : IV) (h : Hp) : jj cf 81 3 [x17, x16, x15, x1, x2] h =
 (evBin .add [x17, (.i .i64 1)]).bind fun v0 =>
 jj cf 81 2 [x16, x15, x1, x2, v0] h :=
 (jj_eq ok81 cf 3 _ h).trans (by kernel_rfl)

/- 82 slices.EqualFunc[[]floodgate/api.Wait,[]floodgate/api.Wait,floodgate/api.Wait,floodgate/api.Wait]: 3 parameters -/
theorem ok82 : okk 82 = true := by kernel_rfl
theorem r82 (cf : CallF) (a0 a1 a2 : IV) (h : Hp) : xx cf 82 [a0, a1, a2] h =
 (evLens [a0]).bind fun v0 =>
 (evLens [a1]).bind fun v1 =>
 (evBin .neq [v0, v1]).bind fun v2 =>
 condR (
 some ((.b false), h)) (
 jj cf 82 5 [a0, a1, a2] h) v2 := by kernel_rfl
/- join -/
theorem r82_5 (cf : CallF) (x0 x1 x2 : IV) (h : Hp) : jj cf 82 5 [x0, x1, x2] h =
 (evLens [x0]).bind fun v0 =>
 jj cf 82 2 [v0, x0, x1, x2, (.i .i64 0)] h :=
 (jj_eq ok82 cf 5 _ h).trans (by kernel_rfl)
/- join -/
theorem r82_1 (cf : CallF) (h : Hp) : jj cf 82 1 [] h =
 some ((.b true), h) :=
 (jj_eq ok82 cf 1 _ h).trans (by kernel_rfl)
/- loop -/
theorem r82_2 (cf : CallF) (x16 x15 x1 x2 x17 : IV) (h : Hp) : jj cf 82 2 [x16, x15, x1, x2, x17] h =
 (evBin .lss [x17, x16]).bind fun v0 =>
 condR (
 jj cf 82 4 [x17, x16, x15, x1, x2] h) (
 jj cf 82 1 [] h) v0 :=
 (jj_eq ok82 cf 2 _ h).trans (by kernel_rfl)
/- join -/
theorem r82_4 (cf : CallF) (x17 x16 x15 x1 x2 : IV) (h : Hp) : jj cf 82 4 [x17, x16, x15, x1, x2] h =
 (evIa 2 [x15, x17]).bind fun v0 =>
 (evLd 2 h [v0]).bind fun v1 =>
 bl (.p (h).next 0) ((h).new (.cells 2 [.sn, (.i .i64 0)])) fun v2 h3 =>
 (efSt 2 h3 [v2, v1]).bind fun p4 =>
 (evIa 2 [x1, x17]).bind fun v5 =>
 (evLd 2 p4.2 [v5]).bind fun v6 =>
 bl (.p (p4.2).next 0) ((p4.2).new (.cells 2 [.sn, (.i .i64 0)])) fun v7 h8 =>
 (efSt 2 h8 [v7, v6]).bind fun p9 =>
 (evLd 2 p9.2 [v2]).bind fun v10 =>
 (evLd 2 p9.2 [v7]).bind fun v11 =>
 (exCall cf x2 [v10, v11] p9.2).bind fun p12 =>
 (evNot [p12.1]).bind fun v13 =>
 condR (
 some ((.b false), p12.2)) (
 jj cf 82 3 [x17, x16, x15, x1, x2] p12.2) v13 :=
 (jj_eq ok82 cf 4 _ h).trans (by kernel_rfl)
/- join -/
theorem r82_3 (cf : CallF) (x17 x16 x15 x1 x2 : IV) (h : Hp) : jj cf 82 3 [x17, x16, x15, x1, x2] h =
 (evBin .add [x17, (.i .i64 1)]).bind fun v0 =>
 jj cf 82 2 [x16, x15, x1, x2, v0] h :=
 (jj_eq ok82 cf 3 _ h).trans (by kernel_rfl)

/- 83 floodgate/closure.Agree$1: 2 parameters -/
theorem ok83 : okk 83 = true := by kernel_rfl
theorem r83 (cf : CallF) (a0 a1 : IV) (h : Hp) : xx cf 83 [a0, a1] h =
 bl (.p (h).next 0) ((h).new (.cells (lenN (IV.cells a0)) (IV.cells a0))) fun v0 h1 =>
 bl (.p (h1).next 0) ((h1).new (.cells (lenN (IV.cells a1)) (IV.cells a1))) fun v2 h3 =>
 (evLd 2 h3 [v0]).bind fun v4 =>
 (evLd 2 h3 [v2]).bind fun v5 =>
 (cf (pos 84) [v4, v5] h3).bind fun p6 =>
 (evBin .eql [p6.1, (.i .i64 0)]).bind fun v7 =>
 some (v7, p6.2) := by kernel_rfl

/- 84 floodgate/closure.compareWaits: 2 parameters -/
theorem ok84 : okk 84 = true := by kernel_rfl
theorem r84 (cf : CallF) (a0 a1 : IV) (h : Hp) : xx cf 84 [a0, a1] h =
 bl (.p (h).next 0) ((h).new (.cells (lenN (IV.cells a0)) (IV.cells a0))) fun v0 h1 =>
 bl (.p (h1).next 0) ((h1).new (.cells (lenN (IV.cells a1)) (IV.cells a1))) fun v2 h3 =>
 (evFa 0 [v0]).bind fun v4 =>
 (evLd1 h3 [v4]).bind fun v5 =>
 (evFa 0 [v2]).bind fun v6 =>
 (evLd1 h3 [v6]).bind fun v7 =>
 (cf (pos 154) [v5, v7, (.f (pos 155) [])] h3).bind fun p8 =>
 (evFa 1 [v0]).bind fun v9 =>
 (evLd1 p8.2 [v9]).bind fun v10 =>
 cond (cond (sameLook .ld1 [v9] h3 v10) true false) (
 (evFa 1 [v2]).bind fun v11 =>
 (evLd1 p8.2 [v11]).bind fun v12 =>
 cond (cond (sameLook .ld1 [v11] h3 v12) true false) (
 (cf (pos 156) [v10, v12] p8.2).bind fun p13 =>
 (alRows 2 1 (p13.2).next [p8.1, p13.1]).bind fun p14 =>
 (cf (pos 153) [p14.2] (Hp.new p13.2 p14.1)).bind fun p15 =>
 some (p15.1, p15.2)) none) none := by kernel_rfl

/- 96 floodgate/floodgateref06.SameValues: 2 parameters -/
theorem ok96 : okk 96 = true := by kernel_rfl
theorem r96 (cf : CallF) (a0 a1 : IV) (h : Hp) : xx cf 96 [a0, a1] h =
 (evLens [a0]).bind fun v0 =>
 (evLens [a1]).bind fun v1 =>
 (evBin .neq [v0, v1]).bind fun v2 =>
 condR (
 some ((.b false), h)) (
 jj cf 96 5 [a0, a1] h) v2 := by kernel_rfl
/- join -/
theorem r96_5 (cf : CallF) (x0 x1 : IV) (h : Hp) : jj cf 96 5 [x0, x1] h =
 jj cf 96 2 [x0, x1, (.i .i64 0)] h :=
 (jj_eq ok96 cf 5 _ h).trans (by kernel_rfl)
/- join -/
theorem r96_1 (cf : CallF) (h : Hp) : jj cf 96 1 [] h =
 some ((.b true), h) :=
 (jj_eq ok96 cf 1 _ h).trans (by kernel_rfl)
/- loop -/
theorem r96_2 (cf : CallF) (x0 x1 x5 : IV) (h : Hp) : jj cf 96 2 [x0, x1, x5] h =
 (evLens [x0]).bind fun v0 =>
 (evBin .lss [x5, v0]).bind fun v1 =>
 condR (
 jj cf 96 4 [x5, x0, x1] h) (
 jj cf 96 1 [] h) v1 :=
 (jj_eq ok96 cf 2 _ h).trans (by kernel_rfl)
/- join -/
theorem r96_4 (cf : CallF) (x5 x0 x1 : IV) (h : Hp) : jj cf 96 4 [x5, x0, x1] h =
 (evIa 2 [x0, x5]).bind fun v0 =>
 (evLd 2 h [v0]).bind fun v1 =>
 (evIa 2 [x1, x5]).bind fun v2 =>
 (evLd 2 h [v2]).bind fun v3 =>
 (evEqa true [0, 0] [v1, v3]).bind fun v4 =>
 condR (
 some ((.b false), h)) (
 jj cf 96 3 [x5, x0, x1] h) v4 :=
 (jj_eq ok96 cf 4 _ h).trans (by kernel_rfl)
/- join -/
theorem r96_3 (cf : CallF) (x5 x0 x1 : IV) (h : Hp) : jj cf 96 3 [x5, x0, x1] h =
 (evBin .add [x5, (.i .i64 1)]).bind fun v0 =>
 jj cf 96 2 [x0, x1, v0] h :=
 (jj_eq ok96 cf 3 _ h).trans (by kernel_rfl)

/- 153 cmp.Or[int]: 1 parameters -/
theorem ok153 : okk 153 = true := by kernel_rfl
theorem r153 (cf : CallF) (a0 : IV) (h : Hp) : xx cf 153 [a0] h =
 (evLens [a0]).bind fun v0 =>
 jj cf 153 2 [v0, a0, (.i .i64 0), (.i .i64 0)] h := by kernel_rfl
/- join -/
theorem r153_1 (cf : CallF) (x3 : IV) (h : Hp) : jj cf 153 1 [x3] h =
 some (x3, h) :=
 (jj_eq ok153 cf 1 _ h).trans (by kernel_rfl)
/- loop -/
theorem r153_2 (cf : CallF) (x7 x6 x8 x3 : IV) (h : Hp) : jj cf 153 2 [x7, x6, x8, x3] h =
 (evBin .lss [x8, x7]).bind fun v0 =>
 condR (
 jj cf 153 4 [x8, x7, x6, x3] h) (
 jj cf 153 1 [x3] h) v0 :=
 (jj_eq ok153 cf 2 _ h).trans (by kernel_rfl)
/- join -/
theorem r153_4 (cf : CallF) (x8 x7 x6 x3 : IV) (h : Hp) : jj cf 153 4 [x8, x7, x6, x3] h =
 (evIa 1 [x6, x8]).bind fun v0 =>
 (evLd1 h [v0]).bind fun v1 =>
 (evBin .neq [v1, x3]).bind fun v2 =>
 condR (
 some (v1, h)) (
 jj cf 153 3 [x8, x7, x6, x3] h) v2 :=
 (jj_eq ok153 cf 4 _ h).trans (by kernel_rfl)
/- join -/
theorem r153_3 (cf : CallF) (x8 x7 x6 x3 : IV) (h : Hp) : jj cf 153 3 [x8, x7, x6, x3] h =
 (evBin .add [x8, (.i .i64 1)]).bind fun v0 =>
 jj cf 153 2 [x7, x6, v0, x3] h :=
 (jj_eq ok153 cf 3 _ h).trans (by kernel_rfl)

/- 154 slices.CompareFunc[[]floodgate/api.Hop,[]floodgate/api.Hop,floodgate/api.Hop,floodgate/api.Hop]: 3 parameters -/
theorem ok154 : okk 154 = true := by kernel_rfl
theorem r154 (cf : CallF) (a0 a1 a2 : IV) (h : Hp) : xx cf 154 [a0, a1, a2] h =
 (evLens [a0]).bind fun v0 =>
 jj cf 154 3 [v0, a0, a2, (.i .i64 0), a0, a1] h := by kernel_rfl
/- join -/
theorem r154_2 (cf : CallF) (x0 x1 : IV) (h : Hp) : jj cf 154 2 [x0, x1] h =
 (evLens [x0]).bind fun v0 =>
 (evLens [x1]).bind fun v1 =>
 (evBin .lss [v0, v1]).bind fun v2 =>
 condR (
 some ((.i .i64 (-1)), h)) (
 jj cf 154 1 [] h) v2 :=
 (jj_eq ok154 cf 2 _ h).trans (by kernel_rfl)
/- loop -/
theorem r154_3 (cf : CallF) (x12 x11 x2 x13 x0 x1 : IV) (h : Hp) : jj cf 154 3 [x12, x11, x2, x13, x0, x1] h =
 (evBin .lss [x13, x12]).bind fun v0 =>
 condR (
 jj cf 154 6 [x13, x12, x11, x2, x0, x1] h) (
 jj cf 154 2 [x0, x1] h) v0 :=
 (jj_eq ok154 cf 3 _ h).trans (by kernel_rfl)
/- join -/
theorem r154_6 (cf : CallF) (x13 x12 x11 x2 x0 x1 : IV) (h : Hp) : jj cf 154 6 [x13, x12, x11, x2, x0, x1] h =
 (evIa 2 [x11, x13]).bind fun v0 =>
 (evLd 2 h [v0]).bind fun v1 =>
 bl (.p (h).next 0) ((h).new (.cells 2 [(.i .i64 0), (.i .i64 0)])) fun v2 h3 =>
 (efSt 2 h3 [v2, v1]).bind fun p4 =>
 (evLens [x1]).bind fun v5 =>
 (evBin .geq [x13, v5]).bind fun v6 =>
 condR (
 some ((.i .i64 1), p4.2)) (
 jj cf 154 5 [x13, v2, x13, x12, x11, x2, x0, x1] p4.2) v6 :=
 (jj_eq ok154 cf 6 _ h).trans (by kernel_rfl)
/- join -/
theorem r154_4 (cf : CallF) (x13 x12 x11 x2 x0 x1 : IV) (h : Hp) : jj cf 154 4 [x13, x12, x11, x2, x0, x1] h =
 (evBin .add [x13, (.i .i64 1)]).bind fun v0 =>
 jj cf 154 3 [x12, x11, x2, v0, x0, x1] h :=
 (jj_eq ok154 cf 4 _ h).trans (by kernel_rfl)
/- join -/
theorem r154_5 (cf : CallF) (x7 x8 x13 x12 x11 x2 x0 x1 : IV) (h : Hp) : jj cf 154 5 [x7, x8, x13, x12, x11, x2, x0, x1] h =
 (evIa 2 [x1, x7]).bind fun v0 =>
 (evLd 2 h [v0]).bind fun v1 =>
 bl (.p (h).next 0) ((h).new (.cells 2 [(.i .i64 0), (.i .i64 0)])) fun v2 h3 =>
 (efSt 2 h3 [v2, v1]).bind fun p4 =>
 (evLd 2 p4.2 [x8]).bind fun v5 =>
 (evLd 2 p4.2 [v2]).bind fun v6 =>
 (exCall cf x2 [v5, v6] p4.2).bind fun p7 =>
 (evBin .neq [p7.1, (.i .i64 0)]).bind fun v8 =>
 condR (
 some (p7.1, p7.2)) (
 jj cf 154 4 [x13, x12, x11, x2, x0, x1] p7.2) v8 :=
 (jj_eq ok154 cf 5 _ h).trans (by kernel_rfl)
/- join -/
theorem r154_1 (cf : CallF) (h : Hp) : jj cf 154 1 [] h =
 some ((.i .i64 0), h) :=
 (jj_eq ok154 cf 1 _ h).trans (by kernel_rfl)

/- 155 floodgate/closure.compareHops: 2 parameters -/
theorem ok155 : okk 155 = true := by kernel_rfl
theorem r155 (cf : CallF) (a0 a1 : IV) (h : Hp) : xx cf 155 [a0, a1] h =
 bl (.p (h).next 0) ((h).new (.cells (lenN (IV.cells a0)) (IV.cells a0))) fun v0 h1 =>
 bl (.p (h1).next 0) ((h1).new (.cells (lenN (IV.cells a1)) (IV.cells a1))) fun v2 h3 =>
 (evFa 0 [v0]).bind fun v4 =>
 (evLd1 h3 [v4]).bind fun v5 =>
 (evFa 0 [v2]).bind fun v6 =>
 (evLd1 h3 [v6]).bind fun v7 =>
 (cf (pos 156) [v5, v7] h3).bind fun p8 =>
 (evFa 1 [v0]).bind fun v9 =>
 (evLd1 p8.2 [v9]).bind fun v10 =>
 cond (cond (sameLook .ld1 [v9] h3 v10) true false) (
 (evFa 1 [v2]).bind fun v11 =>
 (evLd1 p8.2 [v11]).bind fun v12 =>
 cond (cond (sameLook .ld1 [v11] h3 v12) true false) (
 (cf (pos 156) [v10, v12] p8.2).bind fun p13 =>
 (alRows 2 1 (p13.2).next [p8.1, p13.1]).bind fun p14 =>
 (cf (pos 153) [p14.2] (Hp.new p13.2 p14.1)).bind fun p15 =>
 some (p15.1, p15.2)) none) none := by kernel_rfl

/- 156 cmp.Compare[int]: 2 parameters -/
theorem ok156 : okk 156 = true := by kernel_rfl
theorem r156 (cf : CallF) (a0 a1 : IV) (h : Hp) : xx cf 156 [a0, a1] h =
 (cf (pos 219) [a0] h).bind fun p0 =>
 (cf (pos 219) [a1] p0.2).bind fun p1 =>
 condR (
 condR (
 some ((.i .i64 0), p1.2)) (
 jj cf 156 5 [] p1.2) p1.1) (
 jj cf 156 4 [p1.1, a0, a1] p1.2) p0.1 := by kernel_rfl
/- join -/
theorem r156_4 (cf : CallF) (x6 x0 x1 : IV) (h : Hp) : jj cf 156 4 [x6, x0, x1] h =
 condR (
 some ((.i .i64 1), h)) (
 jj cf 156 3 [x0, x1] h) x6 :=
 (jj_eq ok156 cf 4 _ h).trans (by kernel_rfl)
/- join -/
theorem r156_5 (cf : CallF) (h : Hp) : jj cf 156 5 [] h =
 some ((.i .i64 (-1)), h) :=
 (jj_eq ok156 cf 5 _ h).trans (by kernel_rfl)
/- join -/
theorem r156_3 (cf : CallF) (x0 x1 : IV) (h : Hp) : jj cf 156 3 [x0, x1] h =
 (evBin .lss [x0, x1]).bind fun v0 =>
 condR (
 some ((.i .i64 (-1)), h)) (
 jj cf 156 2 [x0, x1] h) v0 :=
 (jj_eq ok156 cf 3 _ h).trans (by kernel_rfl)
/- join -/
theorem r156_2 (cf : CallF) (x0 x1 : IV) (h : Hp) : jj cf 156 2 [x0, x1] h =
 (evBin .gtr [x0, x1]).bind fun v0 =>
 condR (
 some ((.i .i64 1), h)) (
 jj cf 156 1 [] h) v0 :=
 (jj_eq ok156 cf 2 _ h).trans (by kernel_rfl)
/- join -/
theorem r156_1 (cf : CallF) (h : Hp) : jj cf 156 1 [] h =
 some ((.i .i64 0), h) :=
 (jj_eq ok156 cf 1 _ h).trans (by kernel_rfl)

/- 219 cmp.isNaN[int]: 1 parameters -/
theorem ok219 : okk 219 = true := by kernel_rfl
theorem r219 (cf : CallF) (a0 : IV) (h : Hp) : xx cf 219 [a0] h =
 (evBin .neq [a0, a0]).bind fun v0 =>
 some (v0, h) := by kernel_rfl

end Go.Proofs.YtkfdbldnghcngaaGreat
/- Contracts: comparing. -/
namespace Go.Proofs.YtkfdbldnghcngaaGreat
open Go.Fg

/-- What a function gives at arguments that are held by contents, or come to be. -/
def Gives (k : Nat) (args : List IV) (r : IV) : Prop := ∀ h args0 h1, frzs h args0 = some (args, h1) → W9 (pos k) args0 h = some (r, h1)
noncomputable def sameO (o : Option IV) (v : IV) : Bool := match o with | some u => beqV u v | none => false
theorem peq_self : ∀ p : Pos, Pos.eq p p = true
  | .h => rfl
  | .o p => peq_self p
  | .i p => peq_self p
theorem nbeq_self (n : Nat) : Nat.beq n n = true := Nat.beq_refl n
mutual
theorem bd_self : ∀ v : IV, beqDeep v v = true
  | .b x => beq_self_eq_true x
  | .i k x => by unfold beqDeep; rw [(kEq_iff k k).2 rfl, ieq_eq]; simp
  | .s x => by unfold beqDeep; rw [seq_eq]; simp
  | .p x n => by unfold beqDeep; rw [peq_self, nbeq_self]; rfl
  | .pn => rfl
  | .sl x a b c d => by unfold beqDeep; simp only [peq_self, nbeq_self, Bool.and_self]
  | .sn => rfl
  | .m x => peq_self x
  | .mn => rfl
  | .f x l => by unfold beqDeep; rw [peq_self, bds_self l]; rfl
  | .fn => rfl
  | .agg l => bds_self l
  | .tup l => bds_self l
  | .ic n v => by unfold beqDeep; rw [nbeq_self, bd_self v]; rfl
  | .inn => rfl
  | .pi l => bds_self l
  | .sli l => bdss_self l
  | .mi l m => by unfold beqDeep; rw [bds_self l, bds_self m]; rfl
theorem bds_self : ∀ l : List IV, beqDeeps l l = true
  | [] => rfl
  | v :: l => by unfold beqDeeps; rw [bd_self v, bds_self l]; rfl
theorem bdss_self : ∀ l : List (List IV), beqDeepss l l = true
  | [] => rfl
  | v :: l => by unfold beqDeepss; rw [bds_self v, bdss_self l]; rfl
end
theorem bf_self (v : IV) : beqFlat v v = true := by
  have h := bd_self v
  cases v <;> first | exact h | (unfold beqFlat; simp only [peq_self, nbeq_self, ieq_eq, seq_eq, (kEq_iff _ _).2 rfl, beq_self_eq_true]; rfl)
theorem bfs_self : ∀ l : List IV, beqFlats l l = true
  | [] => rfl
  | v :: l => by
    show cond (beqFlat v v) (beqFlats l l) false = true
    rw [bf_self, bfs_self l]; rfl
theorem beqV_self (v : IV) : beqV v v = true := by
  have h := bf_self v
  cases v <;> first | exact h | exact bfs_self _
@[simp] theorem sameO_self (v : IV) : sameO (some v) v = true := beqV_self v
@[simp] theorem sameLook_ld1 (xs : List IV) (h : Hp) (v : IV) : sameLook .ld1 xs h v = sameO (evLd1 h xs) v := rfl
@[simp] theorem sameLook_ld (n : Nat) (xs : List IV) (h : Hp) (v : IV) : sameLook (.ld n) xs h v = sameO (evLd n h xs) v := rfl
@[simp] theorem seenAgain_nil (b : Nat) (h : Hp) : seenAgain b h [] = true := rfl
@[simp] theorem seenAgain_cons (b : Nat) (h : Hp) (n : Nat) (r : Rd) (xs : List IV) (v : IV) (l : List Seen) : seenAgain b h (⟨n, r, xs, v⟩ :: l) = cond (cond (Nat.testBit b n) true (sameLook r xs h v)) (seenAgain b h l) false := rfl
@[simp] theorem consIf_true {α : Type} (x : α) (l : List α) : consIf true x l = x :: l := rfl
@[simp] theorem consIf_false {α : Type} (x : α) (l : List α) : consIf false x l = l := rfl
@[simp] theorem seenBefore_nil (b : Nat) (r : Rd) (xs : List IV) (v : IV) : seenBefore b r xs v [] = true := rfl
@[simp] theorem seenBefore_cons (b : Nat) (r : Rd) (xs : List IV) (v : IV) (n : Nat) (h : Hp) (l : List (Nat × Hp)) : seenBefore b r xs v ((n, h) :: l) = cond (cond (Nat.testBit b n) true (sameLook r xs h v)) (seenBefore b r xs v l) false := rfl
def imm : IV → Bool
  | .agg l | .f _ l | .tup l => l.all Im
  | v => Im v
theorem frz_im1 {v : IV} (hv : Im v = true) (h : Hp) : frz h v = some (v, h) := frzF_im 39 h hv
theorem frz_imm {v : IV} (hv : imm v = true) (h : Hp) : frz h v = some (v, h) := by
  cases v <;> first | exact frz_agg hv | exact frz_f hv | exact frz_tup hv | (refine frz_im1 ?_ h; exact hv)
theorem frzs_imm : ∀ {l : List IV} (hl : l.all imm = true) (h : Hp), frzs h l = some (l, h)
  | [], _, h => frzs_nil h
  | v :: l, hl, h => by
    rw [List.all_cons, Bool.and_eq_true] at hl
    rw [frzs_cons, frz_imm hl.1]
    simp [frzs_imm hl.2]
theorem gives_of {k : Nat} {args : List IV} {r : IV} (ok : okk k = true) (hi : imp9 (pos k) = false) (hr : imm r = true) (e : ∃ h2, xx W9 k args Hp.empty = some (r, h2)) : Gives k args r := fun h args0 h1 e0 => by
  obtain ⟨h2, e⟩ := e
  exact call9 ok hi e0 e (frz_imm hr h2)
theorem Gives.at {k : Nat} {args : List IV} {r : IV} (g : Gives k args r) (ha : args.all imm = true) (h : Hp) : W9 (pos k) args h = some (r, h) := g h args h (frzs_imm ha h)

def cmpI (a b : Int) : Int := if a < b then -1 else if b < a then 1 else 0
def orI (a b : Int) : Int := if a ≠ 0 then a else b
theorem g219 (a : Int) : Gives 219 [int a] (.b false) := gives_of ok219 rfl rfl ⟨Hp.empty, by rw [r219]; simp [int]⟩
theorem g156 (a b : Int) : Gives 156 [int a, int b] (int (cmpI a b)) := gives_of ok156 rfl rfl ⟨Hp.empty, by
  have e1 := (g219 a).at rfl
  have e2 := (g219 b).at rfl
  unfold int at e1 e2
  rw [r156]
  simp [int, e1, e2, r156_4, r156_3, r156_2, r156_1, cmpI]
  by_cases c : a < b <;> by_cases d : b < a <;> simp [c, d]⟩
theorem g153 (a b : Int) : Gives 153 [.sli [[int a], [int b]]] (int (orI a b)) := gives_of ok153 rfl rfl ⟨Hp.empty, by
  rw [r153]
  have i0 : evIa 1 [.sli [[int a], [int b]], .i .i64 0] = some (.pi [int a]) := evIa_sli (i := 0) rfl rfl
  have i1 : evIa 1 [.sli [[int a], [int b]], .i .i64 1] = some (.pi [int b]) := evIa_sli (i := 1) rfl rfl
  have w1 : IntKind.wrap .i64 1 = 1 := rfl
  have w2 : IntKind.wrap .i64 2 = 2 := rfl
  unfold int at *
  rw [evLens_sli, Option.bind_some, r153_2]
  simp [r153_4, r153_3, r153_1, i0, w1, w2, orI]
  by_cases c : a = 0
  · subst c
    simp only [if_true]
    rw [r153_2]
    simp [r153_4, r153_3, r153_1, i1, w1, w2]
    by_cases d : b = 0
    · subst d
      simp only [if_true]
      rw [r153_2]
      simp [r153_1]
    · simp [d]
  · simp [c]⟩
theorem e153 (a b : Int) {h : Hp} {p : Pos} (hp : h.get p = some (.cells 2 [int a, int b])) : W9 (pos 153) [.sl p 0 2 3 1] h = some (int (orI a b), h.set p (.rc 2 [int a, int b])) :=
  g153 a b h _ _ (by rw [frzs_cons, frz_sl (m := 2) (l := [int a, int b]) (by rw [hp]; rfl) (by decide) (by decide) rfl]; rfl)
theorem al21 (id : Pos) (a b : Int) : alRows 2 1 id [.i .i64 a, .i .i64 b] = some (.cells 2 [.i .i64 a, .i .i64 b], .sl id 0 2 3 1) := rfl
def cmpH (x y : Hop) : Int := orI (cmpI x.node y.node) (cmpI x.turn y.turn)
theorem g155 (x y : Hop) : Gives 155 [.agg x.c, .agg y.c] (int (cmpH x y)) := gives_of ok155 rfl rfl (by
  have e1 := (g156 x.node y.node).at rfl
  have e2 := (g156 x.turn y.turn).at rfl
  have e3 := fun (h : Hp) (p : Pos) hp => e153 (cmpI x.node y.node) (cmpI x.turn y.turn) (h := h) (p := p) hp
  unfold int at e1 e2 e3
  rw [r155]
  simp [int, Hop.c, e1, e2, al21, e3, cmpH])
end Go.Proofs.YtkfdbldnghcngaaGreat
/- Contracts: comparing paths and waits. -/
namespace Go.Proofs.YtkfdbldnghcngaaGreat
open Go.Fg

@[simp] theorem ne_nxt (p : Pos) : (p = p.nxt) = False := eq_false fun e => by have := congrArg Pos.num e; rw [Pos.num_nxt] at this; omega
@[simp] theorem nxt_ne (p : Pos) : (p.nxt = p) = False := eq_false fun e => by have := congrArg Pos.num e; rw [Pos.num_nxt] at this; omega
@[simp] theorem ne_nxt2 (p : Pos) : (p = p.nxt.nxt) = False := eq_false fun e => by have := congrArg Pos.num e; rw [Pos.num_nxt, Pos.num_nxt] at this; omega
@[simp] theorem nxt2_ne (p : Pos) : (p.nxt.nxt = p) = False := eq_false fun e => by have := congrArg Pos.num e; rw [Pos.num_nxt, Pos.num_nxt] at this; omega
theorem efSt_new {n : Nat} {h : Hp} {p : Pos} {z l : List IV} (hp : p = h.next) (hl : l.length = n) (ha : allAtoms l = true) : efSt n (h.new (.cells n z)) [.p p 0, .agg l] = some (undefd, (h.new (.cells n z)).set p (.cells n l)) := by
  subst hp
  show cond (cond (Nat.beq (lenN l) n) (allAtoms l) false) (match (h.new (.cells n z)).write h.next 0 n l with | some h' => some (undefd, h') | none => none) none = _
  rw [lenN_eq, hl, Nat.beq_refl, ha, write_eq (m := n) (l := z) (by simp)]
  simp
def cmpL : List Hop → List Hop → Int
  | [], [] => 0
  | [], _ :: _ => -1
  | _ :: _, [] => 1
  | x :: xs, y :: ys => if cmpH x y ≠ 0 then cmpH x y else cmpL xs ys
theorem ex_at {α : Type} {l : List α} {i : Nat} (h : i < l.length) : ∃ x, l[i]? = some x ∧ l.drop i = x :: l.drop (i + 1) := ⟨l[i], by simp [h], by rw [List.drop_eq_getElem_cons h]⟩
theorem wrap1 {i : Nat} (h : i < 1000000000) : IntKind.wrap .i64 ((i : Int) + 1) = ((i + 1 : Nat) : Int) := by rw [wrap64 (by omega) (by omega)]; rfl

theorem loop154 (xs ys : List Hop) (hx : xs.length < 1000000000) : ∀ n i (h : Hp), xs.length - i = n → i ≤ xs.length → i ≤ ys.length →
    ∃ h', jj W9 154 3 [int xs.length, sl Hop.c xs, .f (pos 155) [], int i, sl Hop.c xs, sl Hop.c ys] h = some (int (cmpL (xs.drop i) (ys.drop i)), h') := by
  intro n
  induction n with
  | zero =>
    intro i h hi hle hle2
    have : i = xs.length := by omega
    subst this
    rw [r154_3]
    simp only [int, evBin_lss, Option.bind_some, condR_eq, Int.lt_irrefl, decide_false, Bool.false_eq_true, if_false]
    rw [r154_2]
    simp only [sl_len, Option.bind_some, evBin_lss, condR_eq, decide_eq_true_eq]
    rw [List.drop_length]
    by_cases c : xs.length < ys.length
    · obtain ⟨y, _, e⟩ := ex_at c
      rw [e, if_pos (by omega)]
      exact ⟨h, rfl⟩
    · have : ys.length = xs.length := by omega
      rw [if_neg (by omega), r154_1, ← this, List.drop_length]
      exact ⟨h, rfl⟩
  | succ n ih =>
    intro i h hi hle hle2
    have hlt : i < xs.length := by omega
    obtain ⟨x, hx1, hx2⟩ := ex_at hlt
    have e1 := sl_ia (f := Hop.c) (z := 2) (k := .i64) hx1 rfl
    rw [r154_3]
    have hlt' : (i : Int) < xs.length := by omega
    simp only [int, evBin_lss, Option.bind_some, condR_eq, hlt', decide_true, if_true]
    rw [r154_6, e1]
    have st := fun (h : Hp) (x : Hop) (p : Pos) (hp : p = h.next) => efSt_new (n := 2) (h := h) (z := [.i .i64 0, .i .i64 0]) (l := x.c) hp rfl rfl
    have ld : ∀ (h : Hp) (x : Hop), evLd 2 h [.pi x.c] = some (.agg x.c) := fun _ _ => rfl
    simp only [Option.bind_some, ld, bl_eq, st, sl_len, evBin_geq, condR_eq, decide_eq_true_eq]
    by_cases c : (ys.length : Int) ≤ i
    · rw [if_pos c, hx2, show ys.drop i = [] from List.drop_eq_nil_of_le (by omega)]
      exact ⟨_, rfl⟩
    · rw [if_neg c]
      have hlt2 : i < ys.length := by omega
      obtain ⟨y, hy1, hy2⟩ := ex_at hlt2
      have e2 := sl_ia (f := Hop.c) (z := 2) (k := .i64) hy1 rfl
      rw [r154_5, e2]
      have g := (g155 x y).at rfl
      have st2 := st ((h.new (.cells 2 [.i .i64 0, .i .i64 0])).set h.next (.cells 2 x.c)) y h.next.nxt rfl
      simp only [Option.bind_some, ld, bl_eq, Hp.next_set, Hp.next_new, st2, evLd_p, read_set, Hp.next_set, Hp.next_new, read_new, if_true, Nat.zero_add, Nat.le_refl, ne_nxt, if_false, Option.map_some, exCall_f, List.append_nil, g, int, evBin_neq, condR_eq]
      by_cases d : cmpH x y = 0
      · simp only [d, decide_true, Bool.not_true, Bool.false_eq_true, if_false]
        rw [r154_4]
        simp only [evBin_add, Option.bind_some, wrap1 (i := i) (by omega)]
        obtain ⟨h', e⟩ := ih (i + 1) _ (by omega) (by omega) (by omega)
        refine ⟨h', e.trans ?_⟩
        rw [hx2, hy2]
        simp [cmpL, d, int]
      · simp only [d, decide_false, Bool.not_false, if_true]
        have hc : cmpL (x :: xs.drop (i + 1)) (y :: ys.drop (i + 1)) = cmpH x y := by simp [cmpL, d]
        rw [hx2, hy2, hc]
        exact ⟨_, rfl⟩
theorem g154 (xs ys : List Hop) (hx : xs.length < 1000000000) : Gives 154 [sl Hop.c xs, sl Hop.c ys, .f (pos 155) []] (int (cmpL xs ys)) := gives_of ok154 rfl rfl (by
  obtain ⟨h', e⟩ := loop154 xs ys hx xs.length 0 Hp.empty (by omega) (by omega) (by omega)
  refine ⟨h', ?_⟩
  rw [r154, sl_len, Option.bind_some]
  exact e)
def cmpW (a b : Wait) : Int := orI (cmpL a.path b.path) (cmpI a.node b.node)
theorem g84 (a b : Wait) (ha : a.path.length < 1000000000) : Gives 84 [.agg a.c, .agg b.c] (int (cmpW a b)) := gives_of ok84 rfl rfl (by
  have e1 := (g154 a.path b.path ha).at rfl
  have e2 := (g156 a.node b.node).at rfl
  have e3 := fun (h : Hp) (p : Pos) hp => e153 (cmpL a.path b.path) (cmpI a.node b.node) (h := h) (p := p) hp
  unfold int at e1 e2 e3
  rw [r84]
  simp [int, Wait.c, e1, e2, al21, e3, cmpW])
theorem g32 (a b : Wait) (ha : a.path.length < 1000000000) : Gives 32 [.agg a.c, .agg b.c] (.b (decide (cmpW a b < 0))) := gives_of ok32 rfl rfl (by
  have e1 := (g84 a b ha).at rfl
  unfold int Wait.c at e1
  rw [r32]
  simp [int, Wait.c, e1])
theorem g83 (a b : Wait) (ha : a.path.length < 1000000000) : Gives 83 [.agg a.c, .agg b.c] (.b (decide (cmpW a b = 0))) := gives_of ok83 rfl rfl (by
  have e1 := (g84 a b ha).at rfl
  unfold int Wait.c at e1
  rw [r83]
  simp [int, Wait.c, e1])
end Go.Proofs.YtkfdbldnghcngaaGreat
/- Contracts: the document's Less. -/
namespace Go.Proofs.YtkfdbldnghcngaaGreat
open Go.Fg

def lessM : List Hop → List Hop → Int → Int → Bool
  | x :: xs, y :: ys, m, n => if x.node ≠ y.node then decide (x.node < y.node) else if x.turn ≠ y.turn then decide (x.turn < y.turn) else lessM xs ys m n
  | [], [], m, n => decide (m < n)
  | [], _ :: _, _, _ => true
  | _ :: _, [], _, _ => false
theorem lessM_eq : ∀ (xs ys : List Hop) (m n : Int), lessM xs ys m n = decide (orI (cmpL xs ys) (cmpI m n) < 0)
  | [], [], m, n => by
    by_cases c : m < n <;> by_cases d : n < m <;> simp [lessM, cmpL, orI, cmpI, c, d]
  | [], _ :: _, m, n => by simp [lessM, cmpL, orI]
  | _ :: _, [], m, n => by simp [lessM, cmpL, orI]
  | x :: xs, y :: ys, m, n => by
    have ih := lessM_eq xs ys m n
    unfold lessM cmpL
    by_cases c : x.node = y.node
    · by_cases d : x.turn = y.turn
      · simp [c, d, cmpH, orI, cmpI]
        rw [ih]; simp only [orI, cmpI, ne_eq, ite_not]
      · by_cases e : x.turn < y.turn <;> by_cases f : y.turn < x.turn <;> simp [c, d, cmpH, orI, cmpI, e, f] <;> omega
    · by_cases e : x.node < y.node <;> by_cases f : y.node < x.node <;> simp [c, cmpH, orI, cmpI, e, f] <;> omega

theorem ne_of_num {p q : Pos} (h : p.num < q.num) : (p = q) = False := eq_false fun e => by rw [e] at h; omega
theorem ld1_of {h : Hp} {p : Pos} {n o : Nat} {l : List IV} (e : h.get p = some (.cells n l)) : evLd1 h [.p p o] = l[o]? := read1_eq (m := n) (by rw [e]; rfl) o

theorem efSt_full {n : Nat} {h : Hp} {p : Pos} {z l : List IV} (hb : h.get p = some (.cells n z)) (hl : l.length = n) (ha : allAtoms l = true) : efSt n h [.p p 0, .agg l] = some (undefd, h.set p (.cells n l)) := by
  show cond (cond (Nat.beq (lenN l) n) (allAtoms l) false) (match h.write p 0 n l with | some h' => some (undefd, h') | none => none) none = _
  rw [lenN_eq, hl, Nat.beq_refl, ha, write_eq (m := n) (l := z) (by rw [hb]; rfl)]
  simp
theorem loop33 (a b : Wait) (p q : Pos) (ha : a.path.length < 1000000000) : ∀ n i (h : Hp), a.path.length - i = n → i ≤ a.path.length → i ≤ b.path.length →
    h.get p = some (.cells 2 a.c) → h.get q = some (.cells 2 b.c) → p.num < h.next.num → q.num < h.next.num →
    ∃ h', jj W9 33 3 [int i, .p p 0, .p q 0] h = some (.b (lessM (a.path.drop i) (b.path.drop i) a.node b.node), h') := by
  -- the end of the loop
  have fin : ∀ i (h : Hp), i ≤ a.path.length → i ≤ b.path.length → (i = a.path.length ∨ i = b.path.length) → h.get p = some (.cells 2 a.c) → h.get q = some (.cells 2 b.c) →
      jj W9 33 2 [.p p 0, .p q 0] h = some (.b (lessM (a.path.drop i) (b.path.drop i) a.node b.node), h) := by
    intro i h h1 h2 h3 hp hq
    have a0 : evLd1 h [.p p 0] = some (sl Hop.c a.path) := ld1_of hp
    have a1 : evLd1 h [.p p 1] = some (.i .i64 a.node) := ld1_of hp
    have b0 : evLd1 h [.p q 0] = some (sl Hop.c b.path) := ld1_of hq
    have b1 : evLd1 h [.p q 1] = some (.i .i64 b.node) := ld1_of hq
    rw [r33_2]
    simp only [evFa_p, Nat.add_zero, Nat.zero_add, Option.bind_some, a0, b0, sl_len, evBin_neq, evBin_lss, condR_eq]
    by_cases c : a.path.length = b.path.length
    · have e1 : i = a.path.length := by omega
      have e2 : i = b.path.length := by omega
      have c' : (a.path.length : Int) = b.path.length := by omega
      simp only [c', decide_true, Bool.not_true, Bool.false_eq_true, if_false]
      rw [r33_1]
      simp only [evFa_p, Nat.add_zero, Nat.zero_add, Option.bind_some, a1, b1, evBin_lss]
      rw [show a.path.drop i = [] from by rw [e1, List.drop_length], show b.path.drop i = [] from by rw [e2, List.drop_length]]
      rfl
    · have c' : ¬ (a.path.length : Int) = b.path.length := by omega
      simp only [c', decide_false, Bool.not_false, if_true]
      rcases h3 with h3 | h3
      · obtain ⟨y, _, e⟩ := ex_at (l := b.path) (i := i) (by omega)
        rw [show a.path.drop i = [] from by rw [h3, List.drop_length], e]
        have : (a.path.length : Int) < b.path.length := by omega
        simp [this, lessM]
      · obtain ⟨y, _, e⟩ := ex_at (l := a.path) (i := i) (by omega)
        rw [show b.path.drop i = [] from by rw [h3, List.drop_length], e]
        have : ¬ (a.path.length : Int) < b.path.length := by omega
        simp [this, lessM]
  intro n
  induction n with
  | zero =>
    intro i h hi hle hle2 hp hq hpn hqn
    have a0 : evLd1 h [.p p 0] = some (sl Hop.c a.path) := ld1_of hp
    have b0 : evLd1 h [.p q 0] = some (sl Hop.c b.path) := ld1_of hq
    have : ¬ (i : Int) < a.path.length := by omega
    rw [r33_3]
    simp only [int, evFa_p, Nat.add_zero, Option.bind_some, a0, b0, sl_len, evBin_lss, this, decide_false, wantV_eq, Bool.false_beq, Bool.not_true, cond_false, evPick_eq, condR_eq, Bool.false_eq_true, if_false]
    exact ⟨h, fin i h hle hle2 (Or.inl (by omega)) hp hq⟩
  | succ n ih =>
    intro i h hi hle hle2 hp hq hpn hqn
    have a0 : ∀ {h : Hp}, h.get p = some (.cells 2 a.c) → evLd1 h [.p p 0] = some (sl Hop.c a.path) := fun hp => ld1_of hp
    have b0 : ∀ {h : Hp}, h.get q = some (.cells 2 b.c) → evLd1 h [.p q 0] = some (sl Hop.c b.path) := fun hq => ld1_of hq
    have hlt : (i : Int) < a.path.length := by omega
    rw [r33_3]
    simp only [int, evFa_p, Nat.add_zero, Option.bind_some, a0 hp, b0 hq, sl_len, evBin_lss, hlt, decide_true, wantV_eq, beq_self_eq_true, _root_.cond_true, evPick_eq, condR_eq]
    by_cases c : (i : Int) < b.path.length
    case neg =>
      simp only [c, decide_false, Bool.false_eq_true, if_false]
      exact ⟨h, fin i h hle hle2 (Or.inr (by omega)) hp hq⟩
    case pos =>
    simp only [c, decide_true, if_true]
    obtain ⟨x, hx1, hx2⟩ := ex_at (l := a.path) (i := i) (by omega)
    obtain ⟨y, hy1, hy2⟩ := ex_at (l := b.path) (i := i) (by omega)
    have e1 := sl_ia (f := Hop.c) (z := 2) (k := .i64) hx1 rfl
    have e2 := sl_ia (f := Hop.c) (z := 2) (k := .i64) hy1 rfl
    have ld : ∀ (h : Hp) (x : Hop), evLd 2 h [.pi x.c] = some (.agg x.c) := fun _ _ => rfl
    have np : (p = h.next) = False := ne_of_num hpn
    have nq : (q = h.next) = False := ne_of_num hqn
    have np' : (p = h.next.nxt) = False := ne_of_num (by rw [Pos.num_nxt]; omega)
    have nq' : (q = h.next.nxt) = False := ne_of_num (by rw [Pos.num_nxt]; omega)
    have s1 := efSt_full (n := 2) (h := (h.new (.cells 2 [.i .i64 0, .i .i64 0])).new (.cells 2 [.i .i64 0, .i .i64 0])) (p := h.next) (z := [.i .i64 0, .i .i64 0]) (l := x.c) (by simp) rfl rfl
    generalize hH3 : (((h.new (.cells 2 [.i .i64 0, .i .i64 0])).new (.cells 2 [.i .i64 0, .i .i64 0])).set h.next (.cells 2 x.c)) = H3 at s1
    have s2 := efSt_full (n := 2) (h := H3) (p := h.next.nxt) (z := [.i .i64 0, .i .i64 0]) (l := y.c) (by rw [← hH3]; simp) rfl rfl
    have q3 : H3.get q = some (.cells 2 b.c) := by rw [← hH3]; simp [nq, nq', hq]
    have n3 : H3.next = h.next.nxt.nxt := by rw [← hH3]; rfl
    generalize hH4 : H3.set h.next.nxt (.cells 2 y.c) = H4 at s2
    have p4 : H4.get p = some (.cells 2 a.c) := by rw [← hH4, ← hH3]; simp [np, np', hp]
    have q4 : H4.get q = some (.cells 2 b.c) := by rw [← hH4]; simp [nq', q3]
    have x4 : H4.get h.next = some (.cells 2 x.c) := by rw [← hH4, ← hH3]; simp
    have y4 : H4.get h.next.nxt = some (.cells 2 y.c) := by rw [← hH4]; simp
    have n4 : H4.next = h.next.nxt.nxt := by rw [← hH4]; exact n3
    have x40 : evLd1 H4 [.p h.next 0] = some (.i .i64 x.node) := ld1_of x4
    have x41 : evLd1 H4 [.p h.next 1] = some (.i .i64 x.turn) := ld1_of x4
    have y40 : evLd1 H4 [.p h.next.nxt 0] = some (.i .i64 y.node) := ld1_of y4
    have y41 : evLd1 H4 [.p h.next.nxt 1] = some (.i .i64 y.turn) := ld1_of y4
    rw [r33_6]
    simp only [evFa_p, Nat.add_zero, Nat.zero_add, Option.bind_some, a0 hp, b0 hq, e1, e2, ld, bl_eq, Hp.next_new, s1, sameLook_ld, sameLook_ld1, sameO_self, b0 q3, _root_.cond_true, s2, x40, y40, evBin_neq, evBin_lss, condR_eq, hx2, hy2]
    by_cases c : x.node = y.node
    case neg =>
      simp only [c, decide_false, Bool.not_false, if_true]
      exact ⟨_, by simp only [lessM, c, ne_eq, not_false_eq_true, if_true]; rfl⟩
    case pos =>
    simp only [c, decide_true, Bool.not_true, Bool.false_eq_true, if_false]
    rw [r33_5]
    simp only [evFa_p, Nat.add_zero, Nat.zero_add, Option.bind_some, x41, y41, evBin_neq, evBin_lss, condR_eq]
    by_cases d : x.turn = y.turn
    case neg =>
      simp only [d, decide_false, Bool.not_false, if_true]
      exact ⟨H4, by simp only [lessM, c, d, ne_eq, not_true_eq_false, not_false_eq_true, if_true, if_false]⟩
    case pos =>
    simp only [d, decide_true, Bool.not_true, Bool.false_eq_true, if_false]
    rw [r33_4]
    simp only [evBin_add, Option.bind_some, wrap1 (i := i) (by omega)]
    obtain ⟨h', e⟩ := ih (i + 1) H4 (by omega) (by omega) (by omega) p4 q4 (by rw [n4, Pos.num_nxt, Pos.num_nxt]; omega) (by rw [n4, Pos.num_nxt, Pos.num_nxt]; omega)
    refine ⟨h', e.trans ?_⟩
    simp only [lessM, c, d, ne_eq, not_true_eq_false, if_false]
theorem g33 (a b : Wait) (ha : a.path.length < 1000000000) : Gives 33 [.agg a.c, .agg b.c] (.b (decide (cmpW a b < 0))) := gives_of ok33 rfl rfl (by
  have := loop33 a b .h (.o .h) ha a.path.length 0 ((Hp.empty.new (.cells 2 a.c)).new (.cells 2 b.c)) (by omega) (by omega) (by omega) (by simp) (by simp) (by simp [Pos.num]) (by simp [Pos.num])
  obtain ⟨h', e⟩ := this
  refine ⟨h', ?_⟩
  rw [r33]
  simp only [List.drop_zero, lessM_eq] at e
  simp only [bl_eq, cells_agg, lenN_eq, Wait.c_len, Hp.next_new, empty_next, Pos.nxt_h]
  unfold cmpW
  unfold int at e
  exact e)
end Go.Proofs.YtkfdbldnghcngaaGreat
/- Contracts: equality of values, paths and waits. -/
namespace Go.Proofs.YtkfdbldnghcngaaGreat
open Go.Fg

theorem eqa_val (x y : Val) : evEqa true [0, 0] [.agg x.c, .agg y.c] = some (.b (!decide (x = y))) := by
  simp [Val.c]
  cases x; cases y; simp
theorem eqa_hop (x y : Hop) : evEqa true [0, 0] [.agg x.c, .agg y.c] = some (.b (!decide (x = y))) := by
  simp [Hop.c]
  cases x; cases y; simp
theorem loop80 (xs ys : List Val) (hl : xs.length = ys.length) (hx : xs.length < 1000000000) (h : Hp) : ∀ n i, xs.length - i = n → i ≤ xs.length →
    jj W9 80 2 [int xs.length, sl Val.c xs, sl Val.c ys, int i] h = some (.b (decide (xs.drop i = ys.drop i)), h) := by
  intro n
  induction n with
  | zero =>
    intro i hi hle
    have : ¬ (i : Int) < xs.length := by omega
    rw [r80_2]
    simp only [int, evBin_lss, Option.bind_some, this, decide_false, condR_eq, Bool.false_eq_true, if_false]
    rw [r80_1, List.drop_eq_nil_of_le (by omega), List.drop_eq_nil_of_le (by omega)]
    rfl
  | succ n ih =>
    intro i hi hle
    have hlt : (i : Int) < xs.length := by omega
    obtain ⟨x, hx1, hx2⟩ := ex_at (l := xs) (i := i) (by omega)
    obtain ⟨y, hy1, hy2⟩ := ex_at (l := ys) (i := i) (by omega)
    have e1 := sl_ia (f := Val.c) (z := 2) (k := .i64) hx1 rfl
    have e2 := sl_ia (f := Val.c) (z := 2) (k := .i64) hy1 rfl
    have ld : ∀ (h : Hp) (x : Val), evLd 2 h [.pi x.c] = some (.agg x.c) := fun _ _ => rfl
    rw [r80_2]
    simp only [int, evBin_lss, Option.bind_some, hlt, decide_true, condR_eq, if_true]
    rw [r80_4]
    simp only [e1, e2, ld, Option.bind_some, eqa_val, condR_eq, hx2, hy2]
    by_cases c : x = y
    · simp only [c, decide_true, Bool.not_true, Bool.false_eq_true, if_false]
      rw [r80_3]
      simp only [evBin_add, Option.bind_some, wrap1 (i := i) (by omega)]
      rw [show IV.i .i64 ((i + 1 : Nat) : Int) = int ((i + 1 : Nat) : Int) from rfl, show IV.i .i64 (xs.length : Int) = int xs.length from rfl, ih (i + 1) (by omega) (by omega)]
      simp
    · simp [c]
theorem g80 (xs ys : List Val) (hx : xs.length < 1000000000) : Gives 80 [sl Val.c xs, sl Val.c ys] (.b (decide (xs = ys))) := gives_of ok80 rfl rfl ⟨Hp.empty, by
  rw [r80]
  simp only [sl_len, Option.bind_some, evBin_neq, condR_eq]
  by_cases c : xs.length = ys.length
  · have c' : (xs.length : Int) = ys.length := by omega
    simp only [c', decide_true, Bool.not_true, Bool.false_eq_true, if_false]
    rw [r80_5]
    have := loop80 xs ys c hx Hp.empty xs.length 0 (by omega) (by omega)
    simp only [sl_len, Option.bind_some]
    exact this
  · have c' : ¬ (xs.length : Int) = ys.length := by omega
    have : ¬ xs = ys := fun e => c (by rw [e])
    simp [c', this]⟩
theorem loop40 (xs ys : List Hop) (hl : xs.length = ys.length) (hx : xs.length < 1000000000) (h : Hp) : ∀ n i, xs.length - i = n → i ≤ xs.length →
    jj W9 40 2 [sl Hop.c xs, sl Hop.c ys, int i] h = some (.b (decide (xs.drop i = ys.drop i)), h) := by
  intro n
  induction n with
  | zero =>
    intro i hi hle
    have : ¬ (i : Int) < xs.length := by omega
    rw [r40_2]
    simp only [int, sl_len, evBin_lss, Option.bind_some, this, decide_false, condR_eq, Bool.false_eq_true, if_false]
    rw [r40_1, List.drop_eq_nil_of_le (by omega), List.drop_eq_nil_of_le (by omega)]
    rfl
  | succ n ih =>
    intro i hi hle
    have hlt : (i : Int) < xs.length := by omega
    obtain ⟨x, hx1, hx2⟩ := ex_at (l := xs) (i := i) (by omega)
    obtain ⟨y, hy1, hy2⟩ := ex_at (l := ys) (i := i) (by omega)
    have e1 := sl_ia (f := Hop.c) (z := 2) (k := .i64) hx1 rfl
    have e2 := sl_ia (f := Hop.c) (z := 2) (k := .i64) hy1 rfl
    have ld : ∀ (h : Hp) (x : Hop), evLd 2 h [.pi x.c] = some (.agg x.c) := fun _ _ => rfl
    rw [r40_2]
    simp only [int, sl_len, evBin_lss, Option.bind_some, hlt, decide_true, condR_eq, if_true]
    rw [r40_4]
    simp only [e1, e2, ld, Option.bind_some, eqa_hop, condR_eq, hx2, hy2]
    by_cases c : x = y
    · simp only [c, decide_true, Bool.not_true, Bool.false_eq_true, if_false]
      rw [r40_3]
      simp only [evBin_add, Option.bind_some, wrap1 (i := i) (by omega)]
      rw [show IV.i .i64 ((i + 1 : Nat) : Int) = int ((i + 1 : Nat) : Int) from rfl, ih (i + 1) (by omega) (by omega)]
      simp
    · simp [c]
theorem g40 (xs ys : List Hop) (hx : xs.length < 1000000000) : Gives 40 [sl Hop.c xs, sl Hop.c ys] (.b (decide (xs = ys))) := gives_of ok40 rfl rfl ⟨Hp.empty, by
  rw [r40]
  simp only [sl_len, Option.bind_some, evBin_neq, condR_eq]
  by_cases c : xs.length = ys.length
  · have c' : (xs.length : Int) = ys.length := by omega
    simp only [c', decide_true, Bool.not_true, Bool.false_eq_true, if_false]
    rw [r40_5]
    exact loop40 xs ys c hx Hp.empty xs.length 0 (by omega) (by omega)
  · have c' : ¬ (xs.length : Int) = ys.length := by omega
    have : ¬ xs = ys := fun e => c (by rw [e])
    simp [c', this]⟩
end Go.Proofs.YtkfdbldnghcngaaGreat
/- Contracts: equality of structures and waits. -/
namespace Go.Proofs.YtkfdbldnghcngaaGreat
open Go.Fg

theorem loop96 (xs ys : List Val) (hl : xs.length = ys.length) (hx : xs.length < 1000000000) (h : Hp) : ∀ n i, xs.length - i = n → i ≤ xs.length →
    jj W9 96 2 [sl Val.c xs, sl Val.c ys, int i] h = some (.b (decide (xs.drop i = ys.drop i)), h) := by
  intro n
  induction n with
  | zero =>
    intro i hi hle
    have : ¬ (i : Int) < xs.length := by omega
    rw [r96_2]
    simp only [int, sl_len, evBin_lss, Option.bind_some, this, decide_false, condR_eq, Bool.false_eq_true, if_false]
    rw [r96_1, List.drop_eq_nil_of_le (by omega), List.drop_eq_nil_of_le (by omega)]
    rfl
  | succ n ih =>
    intro i hi hle
    have hlt : (i : Int) < xs.length := by omega
    obtain ⟨x, hx1, hx2⟩ := ex_at (l := xs) (i := i) (by omega)
    obtain ⟨y, hy1, hy2⟩ := ex_at (l := ys) (i := i) (by omega)
    have e1 := sl_ia (f := Val.c) (z := 2) (k := .i64) hx1 rfl
    have e2 := sl_ia (f := Val.c) (z := 2) (k := .i64) hy1 rfl
    have ld : ∀ (h : Hp) (x : Val), evLd 2 h [.pi x.c] = some (.agg x.c) := fun _ _ => rfl
    rw [r96_2]
    simp only [int, sl_len, evBin_lss, Option.bind_some, hlt, decide_true, condR_eq, if_true]
    rw [r96_4]
    simp only [e1, e2, ld, Option.bind_some, eqa_val, condR_eq, hx2, hy2]
    by_cases c : x = y
    · simp only [c, decide_true, Bool.not_true, Bool.false_eq_true, if_false]
      rw [r96_3]
      simp only [evBin_add, Option.bind_some, wrap1 (i := i) (by omega)]
      rw [show IV.i .i64 ((i + 1 : Nat) : Int) = int ((i + 1 : Nat) : Int) from rfl, ih (i + 1) (by omega) (by omega)]
      simp
    · simp [c]
theorem g96 (xs ys : List Val) (hx : xs.length < 1000000000) : Gives 96 [sl Val.c xs, sl Val.c ys] (.b (decide (xs = ys))) := gives_of ok96 rfl rfl ⟨Hp.empty, by
  rw [r96]
  simp only [sl_len, Option.bind_some, evBin_neq, condR_eq]
  by_cases c : xs.length = ys.length
  · have c' : (xs.length : Int) = ys.length := by omega
    simp only [c', decide_true, Bool.not_true, Bool.false_eq_true, if_false]
    rw [r96_5]
    exact loop96 xs ys c hx Hp.empty xs.length 0 (by omega) (by omega)
  · have c' : ¬ (xs.length : Int) = ys.length := by omega
    have : ¬ xs = ys := fun e => c (by rw [e])
    simp [c', this]⟩

theorem loop81 (xs ys : List (List Val)) (hl : xs.length = ys.length) (hx : xs.length < 1000000000) (hs : ∀ x ∈ xs, x.length < 1000000000) (h : Hp) : ∀ n i, xs.length - i = n → i ≤ xs.length →
    jj W9 81 2 [int xs.length, sl cellC xs, sl cellC ys, .f (pos 80) [], int i] h = some (.b (decide (xs.drop i = ys.drop i)), h) := by
  intro n
  induction n with
  | zero =>
    intro i hi hle
    have : ¬ (i : Int) < xs.length := by omega
    rw [r81_2]
    simp only [int, evBin_lss, Option.bind_some, this, decide_false, condR_eq, Bool.false_eq_true, if_false]
    rw [r81_1, List.drop_eq_nil_of_le (by omega), List.drop_eq_nil_of_le (by omega)]
    rfl
  | succ n ih =>
    intro i hi hle
    have hlt : (i : Int) < xs.length := by omega
    obtain ⟨x, hx1, hx2⟩ := ex_at (l := xs) (i := i) (by omega)
    obtain ⟨y, hy1, hy2⟩ := ex_at (l := ys) (i := i) (by omega)
    have e1 := sl_ia (f := cellC) (z := 1) (k := .i64) hx1 rfl
    have e2 := sl_ia (f := cellC) (z := 1) (k := .i64) hy1 rfl
    have ld : ∀ (h : Hp) (x : List Val), evLd1 h [.pi (cellC x)] = some (sl Val.c x) := fun _ _ => rfl
    have g := (g80 x y (hs x (List.mem_of_getElem? hx1))).at rfl
    rw [r81_2]
    simp only [int, evBin_lss, Option.bind_some, hlt, decide_true, condR_eq, if_true]
    rw [r81_4]
    simp only [e1, e2, ld, Option.bind_some, exCall_f, List.append_nil, g, evNot_eq, condR_eq, hx2, hy2]
    by_cases c : x = y
    · simp only [c, decide_true, Bool.not_true, Bool.false_eq_true, if_false]
      rw [r81_3]
      simp only [evBin_add, Option.bind_some, wrap1 (i := i) (by omega)]
      rw [show IV.i .i64 ((i + 1 : Nat) : Int) = int ((i + 1 : Nat) : Int) from rfl, show IV.i .i64 (xs.length : Int) = int xs.length from rfl, ih (i + 1) (by omega) (by omega)]
      simp
    · simp [c]
theorem g81 (xs ys : List (List Val)) (hx : xs.length < 1000000000) (hs : ∀ x ∈ xs, x.length < 1000000000) : Gives 81 [sl cellC xs, sl cellC ys, .f (pos 80) []] (.b (decide (xs = ys))) := gives_of ok81 rfl rfl ⟨Hp.empty, by
  rw [r81]
  simp only [sl_len, Option.bind_some, evBin_neq, condR_eq]
  by_cases c : xs.length = ys.length
  · have c' : (xs.length : Int) = ys.length := by omega
    simp only [c', decide_true, Bool.not_true, Bool.false_eq_true, if_false]
    rw [r81_5]
    have := loop81 xs ys c hx hs Hp.empty xs.length 0 (by omega) (by omega)
    simp only [sl_len, Option.bind_some]
    exact this
  · have c' : ¬ (xs.length : Int) = ys.length := by omega
    have : ¬ xs = ys := fun e => c (by rw [e])
    simp [c', this]⟩

theorem orI_zero (a b : Int) : orI a b = 0 ↔ a = 0 ∧ b = 0 := by unfold orI; by_cases c : a = 0 <;> simp [c]
theorem cmpI_zero (a b : Int) : cmpI a b = 0 ↔ a = b := by unfold cmpI; by_cases c : a < b <;> by_cases d : b < a <;> simp [c, d] <;> omega
theorem cmpH_zero (x y : Hop) : cmpH x y = 0 ↔ x = y := by unfold cmpH; rw [orI_zero, cmpI_zero, cmpI_zero]; cases x; cases y; simp
theorem cmpL_zero : ∀ xs ys : List Hop, cmpL xs ys = 0 ↔ xs = ys
  | [], [] => by simp [cmpL]
  | [], _ :: _ => by simp [cmpL]
  | _ :: _, [] => by simp [cmpL]
  | x :: xs, y :: ys => by
    have ih := cmpL_zero xs ys
    have hh := cmpH_zero x y
    by_cases c : x = y
    · have := hh.2 c
      subst c
      simp [cmpL, this, ih]
    · have : ¬ cmpH x y = 0 := fun e => c (hh.1 e)
      simp [cmpL, this, c]
theorem cmpW_zero (a b : Wait) : cmpW a b = 0 ↔ a = b := by unfold cmpW; rw [orI_zero, cmpL_zero, cmpI_zero]; cases a; cases b; simp

theorem loop82 (xs ys : List Wait) (hl : xs.length = ys.length) (hx : xs.length < 1000000000) (hs : ∀ x ∈ xs, x.path.length < 1000000000) : ∀ n i (h : Hp), xs.length - i = n → i ≤ xs.length →
    ∃ h', jj W9 82 2 [int xs.length, sl Wait.c xs, sl Wait.c ys, .f (pos 83) [], int i] h = some (.b (decide (xs.drop i = ys.drop i)), h') := by
  intro n
  induction n with
  | zero =>
    intro i h hi hle
    have : ¬ (i : Int) < xs.length := by omega
    rw [r82_2]
    simp only [int, evBin_lss, Option.bind_some, this, decide_false, condR_eq, Bool.false_eq_true, if_false]
    rw [r82_1, List.drop_eq_nil_of_le (by omega), List.drop_eq_nil_of_le (by omega)]
    exact ⟨h, rfl⟩
  | succ n ih =>
    intro i h hi hle
    have hlt : (i : Int) < xs.length := by omega
    obtain ⟨x, hx1, hx2⟩ := ex_at (l := xs) (i := i) (by omega)
    obtain ⟨y, hy1, hy2⟩ := ex_at (l := ys) (i := i) (by omega)
    have e1 := sl_ia (f := Wait.c) (z := 2) (k := .i64) hx1 rfl
    have e2 := sl_ia (f := Wait.c) (z := 2) (k := .i64) hy1 rfl
    have ld : ∀ (h : Hp) (x : Wait), evLd 2 h [.pi x.c] = some (.agg x.c) := fun _ _ => rfl
    have g := (g83 x y (hs x (List.mem_of_getElem? hx1))).at rfl
    have s1 := efSt_new (n := 2) (h := h) (p := h.next) (z := [.sn, .i .i64 0]) (l := x.c) rfl rfl rfl
    generalize hH : (h.new (.cells 2 [.sn, .i .i64 0])).set h.next (.cells 2 x.c) = H at s1
    have hn : H.next = h.next.nxt := by rw [← hH]; rfl
    have hg : H.get h.next = some (.cells 2 x.c) := by rw [← hH]; simp
    have s2 := efSt_new (n := 2) (h := H) (p := h.next.nxt) (z := [.sn, .i .i64 0]) (l := y.c) hn.symm rfl rfl
    generalize hK : (H.new (.cells 2 [.sn, .i .i64 0])).set h.next.nxt (.cells 2 y.c) = K at s2
    have k1 : evLd 2 K [.p h.next 0] = some (.agg x.c) := by
      have : K.get h.next = some (.cells 2 x.c) := by rw [← hK]; simp [hn, hg]
      rw [evLd_p, read_eq (m := 2) (l := x.c) (by rw [this]; rfl)]; rfl
    have k2 : evLd 2 K [.p h.next.nxt 0] = some (.agg y.c) := by
      have : K.get h.next.nxt = some (.cells 2 y.c) := by rw [← hK]; simp
      rw [evLd_p, read_eq (m := 2) (l := y.c) (by rw [this]; rfl)]; rfl
    rw [r82_2]
    simp only [int, evBin_lss, Option.bind_some, hlt, decide_true, condR_eq, if_true]
    rw [r82_4]
    simp only [e1, e2, ld, Option.bind_some, bl_eq, s1, hn, s2, k1, k2, exCall_f, List.append_nil, g, evNot_eq, condR_eq, hx2, hy2, cmpW_zero]
    by_cases c : x = y
    · simp only [c, decide_true, Bool.not_true, Bool.false_eq_true, if_false]
      rw [r82_3]
      simp only [evBin_add, Option.bind_some, wrap1 (i := i) (by omega)]
      obtain ⟨h', e⟩ := ih (i + 1) K (by omega) (by omega)
      refine ⟨h', ?_⟩
      rw [show IV.i .i64 ((i + 1 : Nat) : Int) = int ((i + 1 : Nat) : Int) from rfl, show IV.i .i64 (xs.length : Int) = int xs.length from rfl, e]
      simp
    · simp only [c, decide_false, Bool.not_false, if_true]
      exact ⟨K, by simp [c]⟩
theorem g82 (xs ys : List Wait) (hx : xs.length < 1000000000) (hs : ∀ x ∈ xs, x.path.length < 1000000000) : Gives 82 [sl Wait.c xs, sl Wait.c ys, .f (pos 83) []] (.b (decide (xs = ys))) := gives_of ok82 rfl rfl (by
  rw [r82]
  simp only [sl_len, Option.bind_some, evBin_neq, condR_eq]
  by_cases c : xs.length = ys.length
  · have c' : (xs.length : Int) = ys.length := by omega
    simp only [c', decide_true, Bool.not_true, Bool.false_eq_true, if_false]
    rw [r82_5]
    have := loop82 xs ys c hx hs xs.length 0 Hp.empty (by omega) (by omega)
    simp only [sl_len, Option.bind_some]
    exact this
  · have c' : ¬ (xs.length : Int) = ys.length := by omega
    have : ¬ xs = ys := fun e => c (by rw [e])
    exact ⟨Hp.empty, by simp [c', this]⟩)
end Go.Proofs.YtkfdbldnghcngaaGreat
