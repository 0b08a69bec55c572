/- The ideal machine: a deterministic evaluator for the model's code, without capacities, draws and orders. Definitions only. -/
import GoSem.Step
import Derived.Calls
import Derived.Laws.Cells
import Derived.Laws.IdiomCopy
import Derived.Laws.Tables
import Derived.Laws.Append
import Derived.Laws.StructEq
import Derived.Laws.Cover3
import Derived.Laws.Pointers
import Derived.WideLaws
import Derived.IntWalk
set_option linter.unusedSectionVars false
set_option linter.unusedSimpArgs false
set_option linter.unusedVariables false
namespace Go.Fg

/-- Numbers from 1 on, as roads into a tree. -/
inductive Pos where
  | h : Pos
  | o (p : Pos) : Pos
  | i (p : Pos) : Pos
  deriving DecidableEq, Inhabited

def Pos.num : Pos → Nat
  | .h => 1
  | .o p => 2 * p.num
  | .i p => 2 * p.num + 1
noncomputable def Pos.nxt (p : Pos) : Pos := @Pos.rec (fun _ => Pos) (.o .h) (fun p _ => .i p) (fun _ q => .o q) p
/-- Are two the same? -/
noncomputable def Pos.eq (p : Pos) : Pos → Bool :=
  @Pos.rec (fun _ => Pos → Bool)
    (fun q => @Pos.rec (fun _ => Bool) true (fun _ _ => false) (fun _ _ => false) q)
    (fun _ ih q => @Pos.rec (fun _ => Bool) false (fun q _ => ih q) (fun _ _ => false) q)
    (fun _ ih q => @Pos.rec (fun _ => Bool) false (fun _ _ => false) (fun q _ => ih q) q) p
def posF : Nat → Nat → Pos
  | 0, _ => .h
  | f + 1, n => if n ≤ 1 then .h else if n % 2 = 1 then .i (posF f (n / 2)) else .o (posF f (n / 2))
/-- The road of a number from 0 on. -/
def pos (n : Nat) : Pos := posF 64 (n + 1)

/-- A tree. -/
inductive PT (α : Type) where
  | nil : PT α
  | nd (l : PT α) (v : Option α) (r : PT α) : PT α

namespace PT
variable {α : Type}
def val : PT α → Option α
  | .nil => none
  | .nd _ v _ => v
def lft : PT α → PT α
  | .nil => .nil
  | .nd l _ _ => l
def rgt : PT α → PT α
  | .nil => .nil
  | .nd _ _ r => r
noncomputable def get (t : PT α) : Pos → Option α := @PT.rec α (fun _ => Pos → Option α) (fun _ => none) (fun _ v _ il ir p => @Pos.casesOn (fun _ => Option α) p v il ir) t
noncomputable def put (t : PT α) (p : Pos) : Option α → PT α :=
  @Pos.rec (fun _ => PT α → Option α → PT α)
    (fun t x => @PT.rec α (fun _ => Option α → PT α) (fun x => .nd .nil x .nil) (fun l _ r _ _ x => .nd l x r) t x)
    (fun _ ih t x => @PT.rec α (fun _ => (PT α → Option α → PT α) → Option α → PT α) (fun ih x => .nd (ih .nil x) none .nil) (fun l v r _ _ ih x => .nd (ih l x) v r) t ih x)
    (fun _ ih t x => @PT.rec α (fun _ => (PT α → Option α → PT α) → Option α → PT α) (fun ih x => .nd .nil none (ih .nil x)) (fun l v r _ _ ih x => .nd l v (ih r x)) t ih x) p t
end PT

/-- Values. Slices: block, offset, length, capacity (0: not known; c + 1: just c), cells of an element. -/
inductive IV where
  | b (x : Bool)
  | i (k : IntKind) (n : Int)
  | s (l : List Nat)
  | p (b : Pos) (o : Nat)
  | pn
  | sl (b : Pos) (o n c z : Nat)
  | sn
  | m (r : Pos)
  | mn
  | f (f : Pos) (caps : List IV)
  | fn
  | agg (l : List IV)
  | tup (l : List IV)
  | ic (t : Nat) (v : IV)
  | inn
  | pi (l : List IV)            -- a pointer to cells that no one writes any more
  | sli (es : List (List IV))   -- a slice that no one writes any more: the cells of its elements; an empty one may be nil
  | mi (ks vs : List IV)        -- a map that no one writes any more; an empty one may be nil
  deriving Inhabited

noncomputable def ikn (k : IntKind) : Nat := @IntKind.rec (fun _ => Nat) 0 1 2 3 4 5 6 7 k
noncomputable def kEq (k j : IntKind) : Bool := Nat.beq (ikn k) (ikn j)
noncomputable def ieq (a b : Int) : Bool := @Int.rec (fun _ => Int → Bool) (fun m b => @Int.rec (fun _ => Nat → Bool) (fun n m => Nat.beq m n) (fun _ _ => false) b m) (fun m b => @Int.rec (fun _ => Nat → Bool) (fun _ _ => false) (fun n m => Nat.beq m n) b m) a b
noncomputable def ile (a b : Int) : Bool := @Int.rec (fun _ => Int → Bool) (fun m b => @Int.rec (fun _ => Nat → Bool) (fun n m => Nat.ble m n) (fun _ _ => false) b m) (fun m b => @Int.rec (fun _ => Nat → Bool) (fun _ _ => true) (fun n m => Nat.ble n m) b m) a b
noncomputable def iadd (a b : Int) : Int := @Int.rec (fun _ => Int → Int) (fun m b => @Int.rec (fun _ => Nat → Int) (fun n m => .ofNat (Nat.add m n)) (fun n m => Int.add (.ofNat m) (.negSucc n)) b m) (fun m b => Int.add (.negSucc m) b) a b
noncomputable def ifI (c : Bool) (a b : Int) : Int := @Bool.rec (fun _ => Int) b a c
noncomputable def isub (a b : Int) : Int := @Int.rec (fun _ => Int → Int) (fun m b => @Int.rec (fun _ => Nat → Int) (fun n m => ifI (Nat.ble n m) (.ofNat (Nat.sub m n)) (Int.sub (.ofNat m) (.ofNat n))) (fun n m => Int.sub (.ofNat m) (.negSucc n)) b m) (fun m b => Int.sub (.negSucc m) b) a b

noncomputable def seq (x : List Nat) : List Nat → Bool :=
  @List.rec Nat (fun _ => List Nat → Bool) (fun y => @List.casesOn Nat (fun _ => Bool) y true (fun _ _ => false))
    (fun a _ ih y => @List.casesOn Nat (fun _ => Bool) y false (fun b t => cond (Nat.beq a b) (ih t) false)) x
noncomputable def slt (x : List Nat) : List Nat → Bool :=
  @List.rec Nat (fun _ => List Nat → Bool) (fun y => @List.casesOn Nat (fun _ => Bool) y false (fun _ _ => true))
    (fun a _ ih y => @List.casesOn Nat (fun _ => Bool) y false (fun b t => cond (Nat.blt a b) true (cond (Nat.beq a b) (ih t) false))) x

/-! Lists, by their recursors. -/
def isAtomV : IV → Bool
  | .agg _ => false
  | .tup _ => false
  | _ => true

noncomputable def takeN (n : Nat) : List IV → List IV := @Nat.rec (fun _ => List IV → List IV) (fun _ => []) (fun _ ih l => @List.rec IV (fun _ => (List IV → List IV) → List IV) (fun _ => []) (fun a t _ ih => a :: ih t) l ih) n
noncomputable def dropN (n : Nat) : List IV → List IV := @Nat.rec (fun _ => List IV → List IV) (fun l => l) (fun _ ih l => @List.rec IV (fun _ => (List IV → List IV) → List IV) (fun _ => []) (fun _ t _ ih => ih t) l ih) n
noncomputable def lenN (l : List IV) : Nat := @List.rec IV (fun _ => Nat) 0 (fun _ _ n => Nat.succ n) l
noncomputable def nth (n : Nat) : List IV → Option IV := @Nat.rec (fun _ => List IV → Option IV) (fun l => @List.rec IV (fun _ => Option IV) none (fun a _ _ => some a) l) (fun _ ih l => @List.rec IV (fun _ => (List IV → Option IV) → Option IV) (fun _ => none) (fun _ t _ ih => ih t) l ih) n
noncomputable def app (x y : List IV) : List IV := @List.rec IV (fun _ => List IV) y (fun a _ r => a :: r) x
noncomputable def lay (vs : List IV) : List IV → List IV := @List.rec IV (fun _ => List IV → List IV) (fun l => l) (fun v _ ih l => @List.rec IV (fun _ => IV → (List IV → List IV) → List IV) (fun _ _ => []) (fun _ t _ v ih => v :: ih t) l v ih) vs
/-- vs laid over l from o on. -/
noncomputable def layAt (o : Nat) (vs : List IV) : List IV → List IV := @Nat.rec (fun _ => List IV → List IV) (lay vs) (fun _ ih l => @List.rec IV (fun _ => (List IV → List IV) → List IV) (fun _ => []) (fun a t _ ih => a :: ih t) l ih) o
noncomputable def allAtoms (l : List IV) : Bool := @List.rec IV (fun _ => Bool) true (fun a _ r => cond (isAtomV a) r false) l

mutual
noncomputable def beqDeep : IV → IV → Bool
  | .b x, .b y => x == y
  | .i k x, .i j y => kEq k j && ieq x y
  | .s x, .s y => seq x y
  | .p x1 x2, .p y1 y2 => Pos.eq x1 y1 && Nat.beq x2 y2
  | .pn, .pn => true
  | .sl x1 x2 x3 x4 x5, .sl y1 y2 y3 y4 y5 => Pos.eq x1 y1 && Nat.beq x2 y2 && Nat.beq x3 y3 && Nat.beq x4 y4 && Nat.beq x5 y5
  | .sn, .sn => true
  | .m x, .m y => Pos.eq x y
  | .mn, .mn => true
  | .f x1 x2, .f y1 y2 => Pos.eq x1 y1 && beqDeeps x2 y2
  | .fn, .fn => true
  | .agg x, .agg y => beqDeeps x y
  | .tup x, .tup y => beqDeeps x y
  | .ic x1 x2, .ic y1 y2 => Nat.beq x1 y1 && beqDeep x2 y2
  | .inn, .inn => true
  | .pi x, .pi y => beqDeeps x y
  | .sli x, .sli y => beqDeepss x y
  | .mi x1 x2, .mi y1 y2 => beqDeeps x1 y1 && beqDeeps x2 y2
  | _, _ => false
noncomputable def beqDeeps : List IV → List IV → Bool
  | [], [] => true
  | x :: xs, y :: ys => beqDeep x y && beqDeeps xs ys
  | _, _ => false
noncomputable def beqDeepss : List (List IV) → List (List IV) → Bool
  | [], [] => true
  | x :: xs, y :: ys => beqDeeps x y && beqDeepss xs ys
  | _, _ => false
end
noncomputable def beqFlat : IV → IV → Bool
  | .i k x, .i j y => cond (kEq k j) (ieq x y) false
  | .p x1 x2, .p y1 y2 => cond (Nat.beq x2 y2) (Pos.eq x1 y1) false
  | .sl x1 x2 x3 x4 x5, .sl y1 y2 y3 y4 y5 => cond (Nat.beq x2 y2) (cond (Nat.beq x3 y3) (cond (Nat.beq x4 y4) (cond (Nat.beq x5 y5) (Pos.eq x1 y1) false) false) false) false
  | .m x, .m y => Pos.eq x y
  | .s x, .s y => seq x y
  | .sn, .sn => true
  | .pn, .pn => true
  | .b x, .b y => x == y
  | x, y => beqDeep x y
noncomputable def beqFlats (l : List IV) : List IV → Bool := @List.rec IV (fun _ => List IV → Bool) (fun y => @List.casesOn IV (fun _ => Bool) y true (fun _ _ => false)) (fun a _ ih y => @List.casesOn IV (fun _ => Bool) y false (fun b t => cond (beqFlat a b) (ih t) false)) l
noncomputable def beqV : IV → IV → Bool
  | .agg x, .agg y => beqFlats x y
  | .tup x, .tup y => beqFlats x y
  | x, y => beqFlat x y

/-- The cells of a value. -/
def IV.cells : IV → List IV
  | .agg l => l
  | v => [v]

structure IEnt where
  key : IV
  val : IV
  born : Nat

inductive Blk where
  | cells (n : Nat) (l : List IV)   -- n: their number
  | map (es : List IEnt) (clock : Nat)
  | rc (n : Nat) (l : List IV)   -- the same, but no one writes it any more
  | rm (es : List IEnt) (clock : Nat)

structure Hp where
  t : PT Blk
  next : Pos

def bound : Nat := 100000000000

noncomputable def Hp.get (h : Hp) (b : Pos) : Option Blk := PT.get h.t b
noncomputable def Hp.set (h : Hp) (b : Pos) (x : Blk) : Hp := ⟨PT.put h.t b (some x), h.next⟩
noncomputable def Hp.kill (h : Hp) (b : Pos) : Hp := ⟨PT.put h.t b none, h.next⟩
noncomputable def Hp.new (h : Hp) (x : Blk) : Hp := ⟨PT.put h.t h.next (some x), h.next.nxt⟩

inductive Od where
  | t (n : Pos)
  | c (v : IV)

/-- Operations that only read. -/
inductive Rd where
  | mv
  | pick
  | build (z : List IV) (ps : List (Nat × Nat))
  | ld (n : Nat)
  | ld1
  | nilck
  | bin (op : BinOp)
  | bins (op : BinOp)
  | eqb (neg : Bool)
  | eqa (neg : Bool) (ks : List Nat)
  | eqp (neg : Bool)
  | eqs (neg : Bool)
  | eqm (neg : Bool)
  | eqf (neg : Bool)
  | neg
  | not
  | cvi (k : IntKind)
  | cvid
  | cvbs
  | fa (off : Nat)
  | fld (off n : Nat)
  | fld1 (off : Nat)
  | ia (z : Nat)
  | iaa (len z : Nat)
  | ix (len z : Nat)
  | ix1 (len : Nat)
  | ixs
  | slc (z : Nat) (lo hi : Bool)
  | sls (lo hi : Bool)
  | sla (len z : Nat) (lo hi : Bool)
  | lens
  | lenstr
  | lenm
  | capn
  | ext (i : Nat)
  | mkf (f : Pos)
  | mki (t : Nat)
  | max
  | look (ag : Bool) (ks : List Nat) (z : IV) (ok : Bool)

/-- Operations that only make a new block. -/
inductive Al where
  | alloc (z : List IV)
  | box
  | bsl (z : List IV) (len w : Nat) (ps : List (Nat × Nat))
  | rows (len w : Nat)
  | mks (zero : List IV) (w bytes : Nat)
  | mkm
  | cvsb

/-- Operations that change memory. -/
inductive Ef where
  | st (n : Nat)
  | app (w bytes : Nat)
  | appz (zero : List IV) (w bytes : Nat)
  | copy (w : Nat)
  | clear (zero : List IV)
  | upd (ag : Bool) (ks : List Nat)
  | ment (ag : Bool) (ks : List Nat) (zero : IV)
  | esto

inductive Io where
  | rd (r : Rd) (xs : List Od)
  | al (a : Al) (xs : List Od)
  | ef (e : Ef) (xs : List Od)
  | call (f : Od) (xs : List Od)
  | bad

structure IOper where
  dst : Option Pos
  op : Io
  guard : Option (Pos × Bool)   -- the temporary that is looked at, and what it must be
  bits : Nat
  fz : Bool := false            -- are what is stored, made or appended frozen before?

inductive ICode where
  | skip
  | ops (l : List IOper)
  | draw (l : List IOper)
  | seq (a b : ICode)
  | cond (c : Od) (a b : ICode)
  | block (id : Nat) (b : ICode)
  | loop (b : ICode)
  | exit (id : Nat)
  | ret
  | bad

inductive IRes where
  | t (n : Pos)
  | cell (a : Pos) (n : Nat)
  | cell1 (a : Pos)

structure IFn where
  nt : Nat
  res : List IRes
  body : ICode

/-! ### Evaluation -/

abbrev Fm := PT IV

def undefd : IV := .tup []
def orUndef : Option IV → IV
  | some v => v
  | none => undefd
noncomputable def Fm.at (τ : Fm) (t : Pos) : IV := orUndef (PT.get τ t)
noncomputable def Od.ev (τ : Fm) : Od → IV
  | .t n => Fm.at τ n
  | .c v => v
noncomputable def putd (τ : Fm) (d : Option Pos) (v : IV) : Fm := match d with | some t => PT.put τ t (some v) | none => τ

noncomputable def inI64 (n : Int) : Bool := @Int.rec (fun _ => Bool) (fun m => Nat.ble m 9223372036854775807) (fun m => Nat.ble m 9223372036854775807) n
noncomputable def wrapI (k : IntKind) (n : Int) : Int := ifI (Nat.beq (ikn k) 3) (ifI (inI64 n) n (k.wrap n)) (k.wrap n)

noncomputable def notB (x : Bool) : Bool := @Bool.rec (fun _ => Bool) true false x

def shiftI (op : BinOp) (k : IntKind) (x y : Int) : Option IV :=
  match op, y with
  | .shl, .ofNat n => some (.i k (k.wrap (x * 2 ^ (min n k.bits))))
  | .shr, .ofNat n => some (.i k (x.fdiv (2 ^ (min n k.bits))))
  | _, _ => none

def bitsI (op : BinOp) (k : IntKind) (x y : Int) : Option IV :=
  match op with
  | .and => some (.i k (k.wrap (BitVec.ofInt k.bits x &&& BitVec.ofInt k.bits y).toNat))
  | .or => some (.i k (k.wrap (BitVec.ofInt k.bits x ||| BitVec.ofInt k.bits y).toNat))
  | .xor => some (.i k (k.wrap (BitVec.ofInt k.bits x ^^^ BitVec.ofInt k.bits y).toNat))
  | _ => none

noncomputable def addV (k : IntKind) (x y : Int) : IV := .i k (wrapI k (iadd x y))
noncomputable def subV (k : IntKind) (x y : Int) : IV := .i k (wrapI k (isub x y))
noncomputable def mulV (k : IntKind) (x y : Int) : IV := .i k (wrapI k (x * y))
noncomputable def eqlV (_ : IntKind) (x y : Int) : IV := .b (ieq x y)
noncomputable def neqV (_ : IntKind) (x y : Int) : IV := .b (notB (ieq x y))
noncomputable def lssV (_ : IntKind) (x y : Int) : IV := .b (notB (ile y x))
noncomputable def leqV (_ : IntKind) (x y : Int) : IV := .b (ile x y)
noncomputable def gtrV (_ : IntKind) (x y : Int) : IV := .b (notB (ile x y))
noncomputable def geqV (_ : IntKind) (x y : Int) : IV := .b (ile y x)
noncomputable def quoI (k : IntKind) (x y : Int) : Option IV := cond (ieq y 0) none (some (.i k (wrapI k (x.tdiv y))))
noncomputable def remI (k : IntKind) (x y : Int) : Option IV := cond (ieq y 0) none (some (.i k (x.tmod y)))

noncomputable def binI (op : BinOp) (k : IntKind) (x y : Int) : Option IV :=
  match op with
  | .add => some (addV k x y)
  | .sub => some (subV k x y)
  | .mul => some (mulV k x y)
  | .quo => quoI k x y
  | .rem => remI k x y
  | .eql => some (eqlV k x y)
  | .neq => some (neqV k x y)
  | .lss => some (lssV k x y)
  | .leq => some (leqV k x y)
  | .gtr => some (gtrV k x y)
  | .geq => some (geqV k x y)
  | op => bitsI op k x y

noncomputable def binS (op : BinOp) (x y : List Nat) : Option IV :=
  match op with
  | .add => cond (Nat.ble (x.length + y.length) bound) (some (.s (x ++ y))) none
  | .eql => some (.b (seq x y))
  | .neq => some (.b (!(seq x y)))
  | .lss => some (.b (slt x y))
  | .leq => some (.b (slt x y || seq x y))
  | .gtr => some (.b (!(slt x y || seq x y)))
  | .geq => some (.b (!(slt x y)))
  | _ => none

/-- Are two cells the same? kd: what they must be: 0: numbers, 1: bools, 2: strings. -/
noncomputable def eqCell (kd : Nat) : IV → IV → Option Bool
  | .i k a, .i j b => cond (Nat.beq kd 0) (cond (kEq k j) (some (ieq a b)) none) none
  | .b a, .b b => cond (Nat.beq kd 1) (some (a == b)) none
  | .s a, .s b => cond (Nat.beq kd 2) (some (seq a b)) none
  | _, _ => none
def andO (x : Option Bool) (y : Option Bool) : Option Bool := match x with
  | some true => y
  | some false => match y with
    | some _ => some false
    | none => none
  | none => none
/-- Are the cells of two structs of numbers, bools and strings the same? -/
noncomputable def eqCells (ks : List Nat) : List IV → List IV → Option Bool :=
  @List.rec Nat (fun _ => List IV → List IV → Option Bool)
    (fun x y => @List.rec IV (fun _ => Option Bool) (@List.rec IV (fun _ => Option Bool) (some true) (fun _ _ _ => none) y) (fun _ _ _ => none) x)
    (fun kd _ ih x y => @List.rec IV (fun _ => Option Bool) none (fun a s _ => @List.rec IV (fun _ => Option Bool) none (fun b t _ => andO (eqCell kd a b) (ih s t)) y) x) ks
/-- Are two keys the same? -/
noncomputable def eqKey (ag : Bool) (ks : List Nat) : IV → IV → Option Bool
  | .agg x, .agg y => cond ag (eqCells ks x y) none
  | x, y => cond ag none (eqCells ks [x] [y])

noncomputable def takeCells (l : List IV) (o n : Nat) : Option (List IV) := cond (Nat.ble (o + n) (lenN l)) (some (takeN n (dropN o l))) none

def cellsOf : Option Blk → Option (Nat × List IV)
  | some (.cells n l) => some (n, l)
  | some (.rc n l) => some (n, l)
  | _ => none
def cellsW : Option Blk → Option (Nat × List IV)
  | some (.cells n l) => some (n, l)
  | _ => none
def mapOf : Option Blk → Option (List IEnt × Nat)
  | some (.map es c) => some (es, c)
  | some (.rm es c) => some (es, c)
  | _ => none
def mapW : Option Blk → Option (List IEnt × Nat)
  | some (.map es c) => some (es, c)
  | _ => none
noncomputable def Hp.cells (h : Hp) (b : Pos) : Option (Nat × List IV) := cellsOf (h.get b)
noncomputable def Hp.read (h : Hp) (b : Pos) (o n : Nat) : Option (List IV) := match h.cells b with
  | some (m, l) => cond (Nat.ble (o + n) m) (some (cond (Nat.beq n m) l (takeN n (dropN o l)))) none
  | none => none
noncomputable def Hp.read1 (h : Hp) (b : Pos) (o : Nat) : Option IV := match h.cells b with
  | some (_, l) => nth o l
  | none => none
noncomputable def Hp.write (h : Hp) (b : Pos) (o n : Nat) (vs : List IV) : Option Hp := match cellsW (h.get b) with
  | some (m, l) => cond (Nat.ble (o + n) m) (some (h.set b (.cells m (cond (Nat.beq n m) vs (layAt o vs l))))) none
  | none => none

/-- What a struct's parts give. -/
noncomputable def fillI (ps : List (Nat × Nat)) : List IV → List IV → Option (List IV) :=
  @List.rec (Nat × Nat) (fun _ => List IV → List IV → Option (List IV)) (fun vs cells => @List.casesOn IV (fun _ => Option (List IV)) vs (some cells) (fun _ _ => none))
    (fun p _ ih vs cells => @List.casesOn IV (fun _ => Option (List IV)) vs none (fun v t => cond (Nat.beq (lenN v.cells) p.2) (ih t (layAt p.1 v.cells cells)) none)) ps
/-- All rows, one behind the other. -/
noncomputable def rowsI (w : Nat) (vs : List IV) : Option (List IV) :=
  @List.rec IV (fun _ => Option (List IV)) (some []) (fun v _ r => cond (Nat.beq (lenN v.cells) w) (match r with
    | some l => some (app v.cells l)
    | none => none) none) vs

/-- The cells that a slice's first n elements have. -/
noncomputable def firstI (h : Hp) (w n : Nat) : IV → Option (List IV)
  | .sl b o len _ z => cond (Nat.beq z w && Nat.ble n len) (cond (Nat.beq n 0) (some []) (h.read b o (n * w))) none
  | .sn => cond (Nat.beq n 0) (some []) none
  | .s l => cond (Nat.beq w 1 && Nat.ble n l.length) (some (takeN n (l.map fun c => .i .u8 (Int.ofNat c)))) none
  | .sli es => cond (Nat.ble n es.length && (es.all fun e => Nat.beq e.length w)) (some ((es.take n).flatten)) none
  | _ => none

def lenI : IV → Option Nat
  | .sl _ _ n _ _ => some n
  | .sn => some 0
  | .s l => some l.length
  | .sli es => some es.length
  | _ => none

noncomputable def findI (ag : Bool) (ks : List Nat) (k : IV) (es : List IEnt) : Nat → Option (Option (Nat × IEnt)) :=
  @List.rec IEnt (fun _ => Nat → Option (Option (Nat × IEnt))) (fun _ => some none)
    (fun e _ ih n => @Option.casesOn Bool (fun _ => Option (Option (Nat × IEnt))) (eqKey ag ks k e.key) none (fun b => cond b (some (some (n, e))) (ih (n + 1)))) es

noncomputable def keyFits (ag : Bool) (ks : List Nat) : IV → Bool
  | .agg l => cond ag (Nat.beq (lenN l) ks.length) false
  | _ => notB ag
noncomputable def findK (ag : Bool) (ks : List Nat) (k : IV) (es : List IEnt) : Option (Option (Nat × IEnt)) := cond (keyFits ag ks k) (findI ag ks k es 0) none

def bytesI : List IV → Option (List Nat)
  | [] => some []
  | .i .u8 (.ofNat n) :: r => cond (Nat.blt n 256) (match bytesI r with | some l => some (n :: l) | none => none) none
  | _ => none

def boundsI (n most : Nat) (lo hi : Bool) (xs : List IV) : Option (Nat × Nat) :=
  match lo, hi, xs with
  | false, false, [] => some (0, n)
  | true, false, [.i _ (.ofNat l)] => cond (Nat.ble l n) (some (l, n)) none
  | false, true, [.i _ (.ofNat h)] => cond (Nat.ble h most) (some (0, h)) none
  | true, true, [.i _ (.ofNat l), .i _ (.ofNat h)] => cond (Nat.ble h most && Nat.ble l h) (some (l, h)) none
  | _, _, _ => none

def isR : Rd → Bool
  | .ld _ | .ld1 | .cvbs | .lenm | .look .. => true
  | _ => false

def evMv : List IV → Option IV
  | [x] => some x
  | _ => none
def evPick : List IV → Option IV
  | [.b c, x, y] => some (cond c x y)
  | _ => none
noncomputable def evBuild (z : List IV) (ps : List (Nat × Nat)) (xs : List IV) : Option IV := match fillI ps xs z with
  | some l => some (.agg l)
  | none => none
noncomputable def evLd (n : Nat) (h : Hp) : List IV → Option IV
  | [.p b o] => match h.read b o n with
    | some l => some (.agg l)
    | none => none
  | [.pi l] => cond (Nat.ble n l.length) (some (.agg (l.take n))) none
  | _ => none
noncomputable def evLd1 (h : Hp) : List IV → Option IV
  | [.p b o] => h.read1 b o
  | [.pi l] => l[0]?
  | _ => none
def nilckV : IV → Option IV
  | .pn | .inn | .fn => none
  | x => some x
def evNilck : List IV → Option IV
  | [x] => nilckV x
  | _ => none
noncomputable def evBin (op : BinOp) : List IV → Option IV
  | [.i k x, .i j y] => match op with
    | .shl | .shr => shiftI op k x y
    | op => cond (kEq k j) (binI op k x y) none
  | _ => none
noncomputable def evBins (op : BinOp) : List IV → Option IV
  | [.s x, .s y] => binS op x y
  | _ => none
def evEqb (n : Bool) : List IV → Option IV
  | [.b x, .b y] => some (.b (cond n (x != y) (x == y)))
  | _ => none
noncomputable def evEqa (n : Bool) (ks : List Nat) : List IV → Option IV
  | [.agg x, .agg y] => match eqCells ks x y with
    | some r => some (.b (cond n (!r) r))
    | none => none
  | _ => none
def evEqp (n : Bool) : List IV → Option IV
  | [.pn, .pn] => some (.b (!n))
  | [.p _ _, .pn] => some (.b n)
  | [.pn, .p _ _] => some (.b n)
  | [.pi _, .pn] => some (.b n)
  | [.pn, .pi _] => some (.b n)
  | _ => none
def evEqs (n : Bool) : List IV → Option IV
  | [.sn, .sn] => some (.b (!n))
  | [.sl .., .sn] => some (.b n)
  | [.sn, .sl ..] => some (.b n)
  | [.sli (_ :: _), .sn] => some (.b n)
  | [.sn, .sli (_ :: _)] => some (.b n)
  | _ => none
def evEqm (n : Bool) : List IV → Option IV
  | [.mn, .mn] => some (.b (!n))
  | [.m _, .mn] => some (.b n)
  | [.mn, .m _] => some (.b n)
  | [.mi (_ :: _) _, .mn] => some (.b n)
  | [.mn, .mi (_ :: _) _] => some (.b n)
  | _ => none
def evEqf (n : Bool) : List IV → Option IV
  | [.fn, .fn] => some (.b (!n))
  | [.f .., .fn] => some (.b n)
  | [.fn, .f ..] => some (.b n)
  | _ => none
noncomputable def evNeg : List IV → Option IV
  | [.i k x] => some (.i k (wrapI k (isub 0 x)))
  | _ => none
def evNot : List IV → Option IV
  | [.b x] => some (.b (!x))
  | _ => none
noncomputable def evCvi (k : IntKind) : List IV → Option IV
  | [.i _ x] => some (.i k (wrapI k x))
  | _ => none
def evCvid : List IV → Option IV
  | [.s x] => some (.s x)
  | _ => none
noncomputable def evCvbs (h : Hp) : List IV → Option IV
  | [.sn] => some (.s [])
  | [.sl b o n _ 1] => cond (Nat.beq n 0) (some (.s [])) (match h.read b o n with
    | some l => match bytesI l with
      | some s => some (.s s)
      | none => none
    | none => none)
  | [.sli es] => cond (es.all fun e => Nat.beq e.length 1) (match bytesI es.flatten with
    | some s => some (.s s)
    | none => none) none
  | _ => none
def evFa (off : Nat) : List IV → Option IV
  | [.p b o] => some (.p b (o + off))
  | [.pi l] => some (.pi (l.drop off))
  | _ => none
noncomputable def evFld (off n : Nat) : List IV → Option IV
  | [.agg l] => match takeCells l off n with
    | some c => some (.agg c)
    | none => none
  | _ => none
noncomputable def evFld1 (off : Nat) : List IV → Option IV
  | [.agg l] => nth off l
  | _ => none
def evIa (z : Nat) : List IV → Option IV
  | [.sl b o n _ y, .i _ (.ofNat i)] => cond (Nat.blt i n && Nat.beq y z) (some (.p b (o + i * z))) none
  | [.sli es, .i _ (.ofNat i)] => match es[i]? with
    | some e => cond (Nat.beq e.length z) (some (.pi e)) none
    | none => none
  | _ => none
def evIaa (len z : Nat) : List IV → Option IV
  | [.p b o, .i _ (.ofNat i)] => cond (Nat.blt i len) (some (.p b (o + i * z))) none
  | [.pi l, .i _ (.ofNat i)] => cond (Nat.blt i len) (some (.pi (l.drop (i * z)))) none
  | _ => none
noncomputable def evIx (len z : Nat) : List IV → Option IV
  | [.agg l, .i _ (.ofNat i)] => cond (Nat.blt i len) (match takeCells l (i * z) z with
    | some c => some (.agg c)
    | none => none) none
  | _ => none
noncomputable def evIx1 (len : Nat) : List IV → Option IV
  | [.agg l, .i _ (.ofNat i)] => cond (Nat.blt i len) (nth i l) none
  | _ => none
def evIxs : List IV → Option IV
  | [.s l, .i _ (.ofNat i)] => match l[i]? with
    | some c => some (.i .u8 (Int.ofNat c))
    | none => none
  | _ => none
def capLeft (c l : Nat) : Nat := match c with
  | 0 => 0
  | c + 1 => c - l + 1
def capMost (n c : Nat) : Nat := match c with
  | 0 => n
  | c + 1 => c
def evSlc (z : Nat) (lo hi : Bool) : List IV → Option IV
  | .sl b o n c y :: r => cond (Nat.beq y z) (match boundsI n (capMost n c) lo hi r with
    | some (l, h) => some (.sl b (o + l * z) (h - l) (capLeft c l) z)
    | none => none) none
  | .sn :: r => match boundsI 0 0 lo hi r with
    | some _ => some .sn
    | none => none
  | .sli es :: r => cond (es.all fun e => Nat.beq e.length z) (match boundsI es.length es.length lo hi r with
    | some (l, h) => some (.sli ((es.take h).drop l))
    | none => none) none
  | _ => none
def evSls (lo hi : Bool) : List IV → Option IV
  | .s s :: r => match boundsI s.length s.length lo hi r with
    | some (l, h) => some (.s ((s.take h).drop l))
    | none => none
  | _ => none
def evSla (len z : Nat) (lo hi : Bool) : List IV → Option IV
  | .p b o :: r => match boundsI len len lo hi r with
    | some (l, h) => some (.sl b (o + l * z) (h - l) (len - l + 1) z)
    | none => none
  | _ => none
def evLens : List IV → Option IV
  | [.sl _ _ n _ _] => some (.i .i64 (Int.ofNat n))
  | [.sn] => some (.i .i64 0)
  | [.sli es] => some (.i .i64 (Int.ofNat es.length))
  | _ => none
def evLenstr : List IV → Option IV
  | [.s l] => some (.i .i64 (Int.ofNat l.length))
  | _ => none
noncomputable def evLenm (h : Hp) : List IV → Option IV
  | [.mn] => some (.i .i64 0)
  | [.m r] => match mapOf (h.get r) with
    | some (es, _) => some (.i .i64 (Int.ofNat es.length))
    | none => none
  | [.mi ks _] => some (.i .i64 (Int.ofNat ks.length))
  | _ => none
def evCapn : List IV → Option IV
  | [.sn] => some (.i .i64 0)
  | [.sl _ _ _ (c + 1) _] => some (.i .i64 (Int.ofNat c))
  | _ => none
noncomputable def evExt (i : Nat) : List IV → Option IV
  | [.tup l] => nth i l
  | _ => none
def evMki (t : Nat) : List IV → Option IV
  | [x] => some (.ic t x)
  | _ => none
noncomputable def maxI (k : IntKind) : Int → List IV → Option IV
  | a, [] => some (.i k a)
  | a, .i j b :: r => cond (kEq k j) (maxI k (cond (ile b a) a b) r) none
  | _, _ => none
noncomputable def evMax : List IV → Option IV
  | .i k x :: r => maxI k x r
  | _ => none
def entsI : List IV → List IV → List IEnt
  | k :: ks, v :: vs => ⟨k, v, 0⟩ :: entsI ks vs
  | _, _ => []
noncomputable def entsOf (h : Hp) : IV → Option (List IEnt)
  | .mn => some []
  | .m r => match mapOf (h.get r) with
    | some (es, _) => some es
    | none => none
  | .mi ks vs => some (entsI ks vs)
  | _ => none
noncomputable def evLook (ag : Bool) (ks : List Nat) (z : IV) (ok : Bool) (h : Hp) : List IV → Option IV
  | [x, k] => match entsOf h x with
    | some es => match findK ag ks k es with
      | some (some (_, e)) => some (cond ok (.tup [e.val, .b true]) e.val)
      | some none => some (cond ok (.tup [z, .b false]) z)
      | none => none
    | none => none
  | _ => none

noncomputable def Rd.ev (r : Rd) (xs : List IV) (h : Hp) : Option IV :=
  match r with
  | .mv => evMv xs
  | .pick => evPick xs
  | .build z ps => evBuild z ps xs
  | .ld n => evLd n h xs
  | .ld1 => evLd1 h xs
  | .nilck => evNilck xs
  | .bin op => evBin op xs
  | .bins op => evBins op xs
  | .eqb n => evEqb n xs
  | .eqa n ks => evEqa n ks xs
  | .eqp n => evEqp n xs
  | .eqs n => evEqs n xs
  | .eqm n => evEqm n xs
  | .eqf n => evEqf n xs
  | .neg => evNeg xs
  | .not => evNot xs
  | .cvi k => evCvi k xs
  | .cvid => evCvid xs
  | .cvbs => evCvbs h xs
  | .fa off => evFa off xs
  | .fld off n => evFld off n xs
  | .fld1 off => evFld1 off xs
  | .ia z => evIa z xs
  | .iaa len z => evIaa len z xs
  | .ix len z => evIx len z xs
  | .ix1 len => evIx1 len xs
  | .ixs => evIxs xs
  | .slc z lo hi => evSlc z lo hi xs
  | .sls lo hi => evSls lo hi xs
  | .sla len z lo hi => evSla len z lo hi xs
  | .lens => evLens xs
  | .lenstr => evLenstr xs
  | .lenm => evLenm h xs
  | .capn => evCapn xs
  | .ext i => evExt i xs
  | .mkf f => some (.f f xs)
  | .mki t => evMki t xs
  | .max => evMax xs
  | .look ag ks z ok => evLook ag ks z ok h xs

noncomputable def repeatCells (zero : List IV) (n : Nat) : List IV := @Nat.rec (fun _ => List IV) [] (fun _ r => app zero r) n

noncomputable def alBox (id : Pos) : List IV → Option (Blk × IV)
  | [x] => some (.cells (lenN x.cells) x.cells, .p id 0)
  | _ => none
noncomputable def alBsl (z : List IV) (len w : Nat) (ps : List (Nat × Nat)) (id : Pos) (xs : List IV) : Option (Blk × IV) := match fillI ps xs z with
  | some l => some (.cells (len * w) l, .sl id 0 len (len + 1) w)
  | none => none
noncomputable def alRows (len w : Nat) (id : Pos) (xs : List IV) : Option (Blk × IV) := cond (Nat.beq (lenN xs) len) (match rowsI w xs with
  | some l => some (.cells (len * w) l, .sl id 0 len (len + 1) w)
  | none => none) none
noncomputable def alMks (zero : List IV) (w bytes : Nat) (id : Pos) : List IV → Option (Blk × IV)
  | [.i _ (.ofNat l), .i _ (.ofNat c)] => cond (Nat.ble l c && Nat.ble (c * bytes) bound) (some (.cells (c * w) (repeatCells zero c), .sl id 0 l (c + 1) w)) none
  | _ => none
def alCvsb (id : Pos) : List IV → Option (Blk × IV)
  | [.s l] => cond (Nat.ble l.length bound) (some (.cells l.length (l.map fun c => .i .u8 (Int.ofNat c)), .sl id 0 l.length 0 1)) none
  | _ => none
/-- The new block, and the value that names it. -/
noncomputable def Al.ev (a : Al) (xs : List IV) (id : Pos) : Option (Blk × IV) :=
  match a with
  | .alloc z => some (.cells (lenN z) z, .p id 0)
  | .box => alBox id xs
  | .bsl z len w ps => alBsl z len w ps id xs
  | .rows len w => alRows len w id xs
  | .mks zero w bytes => alMks zero w bytes id xs
  | .mkm => some (.map [] 0, .m id)
  | .cvsb => alCvsb id xs

def isCells : Option Blk → Bool
  | some (.cells _ _) => true
  | _ => false
/-- Append the cells of n elements. -/
noncomputable def growI (h : Hp) (b : Pos) (o len c w n : Nat) (old new : List IV) : Option (IV × Hp) :=
  match c with
  | 0 => cond (isCells (h.get b)) (some (.sl h.next 0 (len + n) 0 w, (h.kill b).new (.cells ((len + n) * w) (app old new)))) none
  | c + 1 => cond (Nat.ble (len + n) c)
    (match h.write b (o + len * w) (n * w) new with
     | some h' => some (.sl b o (len + n) (c + 1) w, h')
     | none => none)
    (some (.sl h.next 0 (len + n) 0 w, h.new (.cells ((len + n) * w) (app old new))))
noncomputable def appendI (h : Hp) (w bytes : Nat) (s : IV) (n : Nat) (new : List IV) : Option (IV × Hp) :=
  match s with
  | .sn => cond (Nat.beq n 0) (some (.sn, h)) (cond (Nat.ble (n * bytes) bound) (some (.sl h.next 0 n 0 w, h.new (.cells (n * w) new))) none)
  | .sl b o len c z => cond (Nat.beq z w) (cond (Nat.beq n 0) (some (.sl b o len c z, h))
      (cond (Nat.ble ((len + n) * bytes) bound)
        (match (cond (Nat.beq len 0) (some []) (h.read b o (len * w))) with
         | none => none
         | some old => growI h b o len c w n old new)
        none)) none
  | _ => none

noncomputable def modI (f : IEnt → IEnt) (es : List IEnt) : Nat → List IEnt :=
  @List.rec IEnt (fun _ => Nat → List IEnt) (fun _ => []) (fun e t ih n => @Nat.casesOn (fun _ => List IEnt) n (f e :: t) (fun m => e :: ih m)) es
def setVal (v : IV) (e : IEnt) : IEnt := ⟨e.key, v, e.born⟩

noncomputable def efSt (n : Nat) (h : Hp) : List IV → Option (IV × Hp)
  | [.p b o, v] => cond (cond (Nat.beq (lenN v.cells) n) (allAtoms v.cells) false) (match h.write b o n v.cells with
    | some h' => some (undefd, h')
    | none => none) none
  | _ => none
noncomputable def efApp (w bytes : Nat) (h : Hp) : List IV → Option (IV × Hp)
  | [s, x] => match lenI x with
    | some n => match firstI h w n x with
      | some new => cond (allAtoms new) (appendI h w bytes s n new) none
      | none => none
    | none => none
  | _ => none
noncomputable def efAppz (zero : List IV) (w bytes : Nat) (h : Hp) : List IV → Option (IV × Hp)
  | [s, .i _ (.ofNat n)] => cond (cond (Nat.ble (n * bytes) bound) (allAtoms (repeatCells zero n)) false) (appendI h w bytes s n (repeatCells zero n)) none
  | _ => none
noncomputable def copyTo (h : Hp) (w n : Nat) (new : List IV) : IV → Option (IV × Hp)
  | .sl b o _ _ z => cond (Nat.beq z w) (cond (Nat.beq n 0) (some (.i .i64 0, h)) (match h.write b o (n * w) new with
    | some h' => some (.i .i64 (Int.ofNat n), h')
    | none => none)) none
  | .sn => some (.i .i64 0, h)
  | _ => none
noncomputable def efCopy (w : Nat) (h : Hp) : List IV → Option (IV × Hp)
  | [d, x] => match lenI d, lenI x with
    | some m, some n => match firstI h w (min n m) x with
      | some new => cond (allAtoms new) (copyTo h w (min n m) new d) none
      | none => none
    | _, _ => none
  | _ => none
noncomputable def efClear (zero : List IV) (h : Hp) : List IV → Option (IV × Hp)
  | [.sn] => some (.tup [], h)
  | [.sl b o n _ z] => cond (cond (Nat.beq z (lenN zero)) (allAtoms (repeatCells zero n)) false) (cond (Nat.beq n 0) (some (.tup [], h)) (match h.write b o (n * z) (repeatCells zero n) with
      | some h' => some (.tup [], h')
      | none => none)) none
  | _ => none
noncomputable def efUpd (ag : Bool) (ks : List Nat) (h : Hp) : List IV → Option (IV × Hp)
  | [.m r, k, v] => match mapW (h.get r) with
    | some (es, clock) => match findK ag ks k es with
      | some (some (i, _)) => some (undefd, h.set r (.map (modI (setVal v) es i) clock))
      | some none => some (undefd, h.set r (.map (es ++ [⟨k, v, clock⟩]) (clock + 1)))
      | none => none
    | none => none
  | _ => none
noncomputable def efMent (ag : Bool) (ks : List Nat) (zero : IV) (h : Hp) : List IV → Option (IV × Hp)
  | [.m r, k] => match mapW (h.get r) with
    | some (es, clock) => match findK ag ks k es with
      | some (some (_, e)) => some (.tup [e.val, .i .i64 (Int.ofNat e.born)], h)
      | some none => some (.tup [zero, .i .i64 (Int.ofNat clock)], h.set r (.map (es ++ [⟨k, zero, clock⟩]) (clock + 1)))
      | none => none
    | none => none
  | _ => none
noncomputable def bornAt (n : Nat) (es : List IEnt) : Nat → Option Nat :=
  @List.rec IEnt (fun _ => Nat → Option Nat) (fun _ => none) (fun e _ ih i => cond (Nat.beq e.born n) (some i) (ih (i + 1))) es
noncomputable def efEsto (h : Hp) : List IV → Option (IV × Hp)
  | [.m r, .i _ (.ofNat born), v] => match mapW (h.get r) with
    | some (es, clock) => match bornAt born es 0 with
      | some i => some (undefd, h.set r (.map (modI (setVal v) es i) clock))
      | none => none
    | none => none
  | _ => none
noncomputable def Ef.ev (e : Ef) (xs : List IV) (h : Hp) : Option (IV × Hp) :=
  match e with
  | .st n => efSt n h xs
  | .app w bytes => efApp w bytes h xs
  | .appz zero w bytes => efAppz zero w bytes h xs
  | .copy w => efCopy w h xs
  | .clear zero => efClear zero h xs
  | .upd ag ks => efUpd ag ks h xs
  | .ment ag ks zero => efMent ag ks zero h xs
  | .esto => efEsto h xs

/-- How a piece of code ends. -/
inductive Out where
  | nrm (τ : PT IV) (h : Hp)
  | ret (τ : PT IV) (h : Hp)
  | exit (id : Nat) (τ : PT IV) (h : Hp)
  | fail

def wantV (w : Bool) : IV → Bool
  | .b x => x == w
  | _ => false
noncomputable def wantedI (g : Option (Pos × Bool)) (τ : Fm) : Bool :=
  match g with
  | none => true
  | some (t, w) => wantV w (Fm.at τ t)

noncomputable def evs (τ : Fm) (l : List Od) : List IV := @List.rec Od (fun _ => List IV) [] (fun x _ r => x.ev τ :: r) l

abbrev CallF := Pos → List IV → Hp → Option (IV × Hp)

noncomputable def exRd (r : Rd) (xs : List IV) (h : Hp) : Option (IV × Hp) := match r.ev xs h with
  | some v => some (v, h)
  | none => none
noncomputable def exAl (a : Al) (xs : List IV) (h : Hp) : Option (IV × Hp) := match a.ev xs h.next with
  | some (x, v) => some (v, h.new x)
  | none => none
noncomputable def exCall (cf : CallF) (f : IV) (xs : List IV) (h : Hp) : Option (IV × Hp) := match f with
  | .f g caps => cf g (xs ++ caps) h
  | _ => none
/-! Freezing: what no one writes any more. -/
def frzL (f : Hp → IV → Option (IV × Hp)) : Hp → List IV → Option (List IV × Hp)
  | h, [] => some ([], h)
  | h, v :: vs => match f h v with
    | none => none
    | some (u, h') => match frzL f h' vs with
      | none => none
      | some (us, h'') => some (u :: us, h'')
def chunks (z : Nat) : Nat → List IV → List (List IV)
  | 0, _ => []
  | n + 1, l => l.take z :: chunks z n (l.drop z)
noncomputable def frzF : Nat → Hp → IV → Option (IV × Hp)
  | 0, _, _ => none
  | n + 1, h, v => match v with
    | .p b o => match cellsOf (h.get b) with
      | some (m, l) => match frzL (frzF n) h l with
        | some (l', h') => some (.pi (l'.drop o), h'.set b (.rc m l))
        | none => none
      | none => none
    | .sl b o len _ z => cond (Nat.beq len 0) (some (.sli [], h)) (match cellsOf (h.get b) with
      | some (m, l) => cond (Nat.ble (o + len * z) m) (match frzL (frzF n) h ((l.drop o).take (len * z)) with
        | some (l', h') => some (.sli (chunks z len l'), h'.set b (.rc m l))
        | none => none) none
      | none => none)
    | .m r => match mapOf (h.get r) with
      | some (es, c) => match frzL (frzF n) h (es.map (·.key)) with
        | some (ks, h1) => match frzL (frzF n) h1 (es.map (·.val)) with
          | some (vs, h2) => some (.mi ks vs, h2.set r (.rm es c))
          | none => none
        | none => none
      | none => none
    | .sn => some (.sli [], h)
    | .mn => some (.mi [] [], h)
    | .agg l => match frzL (frzF n) h l with
      | some (l', h') => some (.agg l', h')
      | none => none
    | .tup l => match frzL (frzF n) h l with
      | some (l', h') => some (.tup l', h')
      | none => none
    | .f k l => match frzL (frzF n) h l with
      | some (l', h') => some (.f k l', h')
      | none => none
    | .ic t x => match frzF n h x with
      | some (x', h') => some (.ic t x', h')
      | none => none
    | x => some (x, h)
noncomputable def frz (h : Hp) (v : IV) : Option (IV × Hp) := frzF 40 h v
noncomputable def frzs (h : Hp) (l : List IV) : Option (List IV × Hp) := frzL frz h l

noncomputable def exOp (cf : CallF) (o : Io) (τ : Fm) (h : Hp) : Option (IV × Hp) :=
  match o with
  | .rd r xs => exRd r (evs τ xs) h
  | .al a xs => exAl a (evs τ xs) h
  | .ef e xs => e.ev (evs τ xs) h
  | .call f xs => exCall cf (f.ev τ) (evs τ xs) h
  | .bad => none

noncomputable def frzOds : Hp → Fm → List Od → Option (Fm × Hp)
  | h, τ, [] => some (τ, h)
  | h, τ, .c _ :: r => frzOds h τ r
  | h, τ, .t n :: r => cond (Nat.ble n.num 1000000) (match frz h (Fm.at τ n) with
    | some (u, h') => frzOds h' (putd τ (some n) u) r
    | none => none) none
def Io.toFz : Io → List Od
  | .rd _ xs | .al _ xs => xs
  | .ef _ (_ :: xs) => xs
  | .call _ (_ :: xs) => xs
  | _ => []
noncomputable def exFz (cf : CallF) (o : Io) (τ : Fm) (h : Hp) : Option (IV × Hp) := match frzOds h τ o.toFz with
  | some (τ', h') => exOp cf o τ' h'
  | none => none
noncomputable def exOpz (cf : CallF) (o : IOper) (τ : Fm) (h : Hp) : Option (IV × Hp) := cond o.fz (exFz cf o.op τ h) (exOp cf o.op τ h)

noncomputable def opThen (k : Fm → Hp → Out) (τ : Fm) (d : Option Pos) : Option (IV × Hp) → Out
  | some (v, h) => k (putd τ d v) h
  | none => .fail
noncomputable def exOps (cf : CallF) : List IOper → Fm → Hp → Out
  | [], τ, h => .nrm τ h
  | o :: r, τ, h => cond (wantedI o.guard τ) (opThen (exOps cf r) τ o.dst (exOpz cf o τ h)) (exOps cf r (putd τ o.dst undefd) h)

/-- A look at memory: which operation, what it looked with, and what it saw. -/
structure Seen where
  place : Nat
  r : Rd
  xs : List IV
  v : IV

noncomputable def sameLook (r : Rd) (xs : List IV) (h : Hp) (v : IV) : Bool := match r.ev xs h with
  | some u => beqV u v
  | none => false
noncomputable def seenAgain (bits : Nat) (h : Hp) (l : List Seen) : Bool :=
  @List.rec Seen (fun _ => Bool) true (fun s _ r => cond (cond (Nat.testBit bits s.place) true (sameLook s.r s.xs h s.v)) r false) l
noncomputable def seenBefore (bits : Nat) (r : Rd) (xs : List IV) (v : IV) (l : List (Nat × Hp)) : Bool :=
  @List.rec (Nat × Hp) (fun _ => Bool) true (fun e _ k => cond (cond (Nat.testBit bits e.1) true (sameLook r xs e.2 v)) k false) l

def isRd : Io → Bool
  | .rd r _ => isR r
  | _ => false
def isEffect : Io → Bool
  | .ef _ _ | .call _ _ | .bad => true
  | _ => false

/-- What is kept of a region whose order is open: the looks so far, and memory before each effect so far. -/
structure DSt where
  looks : List Seen
  old : List (Nat × Hp)

noncomputable def drawRd (n bits : Nat) (r : Rd) (xs : List IV) (v : IV) (d : DSt) : Option DSt :=
  cond (isR r) (cond (seenBefore bits r xs v d.old) (some ⟨⟨n, r, xs, v⟩ :: d.looks, d.old⟩) none) (some d)
noncomputable def drawSt (n bits : Nat) (o : Io) (τ : Fm) (h : Hp) (v : IV) (h' : Hp) (d : DSt) : Option DSt :=
  match o with
  | .rd r xs => drawRd n bits r (evs τ xs) v d
  | .al _ _ => some d
  | _ => cond (seenAgain bits h' d.looks) (some ⟨d.looks, (n, h) :: d.old⟩) none

noncomputable def drawThen (k : DSt → Fm → Hp → Out) (n : Nat) (o : IOper) (d : DSt) (τ : Fm) (h : Hp) : Option (IV × Hp) → Out
  | some (v, h') => match drawSt n o.bits o.op τ h v h' d with
    | some d' => k d' (putd τ o.dst v) h'
    | none => .fail
  | none => .fail
/-- A region whose order is open: the text's order, and looks at memory that would see the same at every other time. -/
noncomputable def exDraw (cf : CallF) (l : List IOper) : Nat → DSt → Fm → Hp → Out :=
  @List.rec IOper (fun _ => Nat → DSt → Fm → Hp → Out) (fun _ _ τ h => .nrm τ h)
    (fun o _ ih n d τ h => cond (wantedI o.guard τ) (drawThen (ih (n + 1)) n o d τ h (exOp cf o.op τ h)) (ih (n + 1) d (putd τ o.dst undefd) h)) l

noncomputable def resI (τ : Fm) (h : Hp) : IRes → Option IV
  | .t n => some (Fm.at τ n)
  | .cell a n => evLd n h [Fm.at τ a]
  | .cell1 a => evLd1 h [Fm.at τ a]
def consO (x : Option IV) (y : Option (List IV)) : Option (List IV) := match x with
  | some v => match y with
    | some vs => some (v :: vs)
    | none => none
  | none => none
noncomputable def resultsI (τ : Fm) (h : Hp) (l : List IRes) : Option (List IV) := @List.rec IRes (fun _ => Option (List IV)) (some []) (fun r _ k => consO (resI τ h r) k) l

def oneOf : List IV → IV
  | [v] => v
  | vs => .tup vs

noncomputable def frameOf (l : List IV) : Pos → Fm → Fm :=
  @List.rec IV (fun _ => Pos → Fm → Fm) (fun _ τ => τ) (fun v _ k n τ => k n.nxt (PT.put τ n (some v))) l

noncomputable def leaveI (rs : List IRes) : Out → Option (IV × Hp)
  | .nrm τ h => match resultsI τ h rs with
    | some vs => some (oneOf vs, h)
    | none => none
  | .ret τ h => match resultsI τ h rs with
    | some vs => some (oneOf vs, h)
    | none => none
  | _ => none

def thenI (k : Fm → Hp → Out) : Out → Out
  | .nrm τ h => k τ h
  | r => r
def blockI (id : Nat) : Out → Out
  | .exit k τ h => cond (Nat.beq k id) (.nrm τ h) (.exit k τ h)
  | r => r
def condI (x y : Out) : IV → Out
  | .b true => x
  | .b false => y
  | _ => .fail

noncomputable def loopN (body : Fm → Hp → Out) (n : Nat) : Fm → Hp → Out := @Nat.rec (fun _ => Fm → Hp → Out) (fun _ _ => .fail) (fun _ self τ h => thenI self (body τ h)) n

/-- What code does: N rounds of a loop at most; calls by cf. -/
noncomputable def sem (N : Nat) (cf : CallF) : ICode → Fm → Hp → Out
  | .skip, τ, h => .nrm τ h
  | .ops l, τ, h => exOps cf l τ h
  | .draw l, τ, h => exDraw cf l 0 ⟨[], []⟩ τ h
  | .seq a b, τ, h => thenI (sem N cf b) (sem N cf a τ h)
  | .cond o a b, τ, h => condI (sem N cf a τ h) (sem N cf b τ h) (o.ev τ)
  | .block id b, τ, h => blockI id (sem N cf b τ h)
  | .loop b, τ, h => loopN (sem N cf b) N τ h
  | .exit id, τ, h => .exit id τ h
  | .ret, τ, h => .ret τ h
  | .bad, _, _ => .fail

noncomputable def callFn (N : Nat) (cf : CallF) (fn : IFn) (args : List IV) (h : Hp) : Option (IV × Hp) := leaveI fn.res (sem N cf fn.body (frameOf args .h .nil) h)

/-- Calls, n deep at most. -/
noncomputable def callN (T : Pos → Option IFn) (N : Nat) (n : Nat) : CallF :=
  @Nat.rec (fun _ => CallF) (fun _ _ _ => none) (fun _ cf f args h => match T f with
    | none => none
    | some fn => callFn N cf fn args h) n
end Go.Fg
/- From the model's code to the ideal machine's code. Definitions only. -/
namespace Go.Fg

mutual
def ofVal : Nat → Value → Option IV
  | 0, _ => none
  | n + 1, v => match v with
    | .bool x => some (.b x)
    | .int k x => some (.i k x)
    | .string s => some (.s (s.data.toList.map UInt8.toNat))
    | .pointer none => some .pn
    | .slice none 0 0 => some .sn
    | .map none => some .mn
    | .nilFunc => some .fn
    | .nilIface => some .inn
    | .func (.func f) first caps => if f < 1000000 ∧ first.size = 0 ∧ caps.size = 0 then some (.f (pos f) []) else none
    | .agg l => match ofVals n l.toList with
      | some r => some (.agg r)
      | none => none
    | .tuple l => match ofVals n l.toList with
      | some r => some (.tup r)
      | none => none
    | _ => none
def ofVals : Nat → List Value → Option (List IV)
  | 0, _ => none
  | _ + 1, [] => some []
  | n + 1, v :: vs => match ofVal n v, ofVals n vs with
    | some x, some xs => some (x :: xs)
    | _, _ => none
end

def od : Operand → Option Od
  | .tmp t => if Nat.blt t 1000000 then some (.t (pos t)) else none
  | .const v => match ofVal 400 v with
    | some x => some (.c x)
    | none => none
  | .global _ => none
  | .func f => if Nat.blt f 1000000 then some (.c (.f (pos f) [])) else none

def ods : List Operand → Option (List Od)
  | [] => some []
  | x :: r => match od x, ods r with
    | some a, some b => some (a :: b)
    | _, _ => none

section
variable (P : Program)

def sz (t : TypeId) : Option Nat := match P.info? t with
  | some i => some i.size
  | none => none
def byts (t : TypeId) : Option Nat := match P.info? t with
  | some i => some i.bytes
  | none => none
def zeroI (t : TypeId) : Option IV := match P.info? t with
  | some i => match i.zero with
    | some v => ofVal 400 v
    | none => none
  | none => none
def isAggT (t : TypeId) : Bool := match P.underlying t with
  | some (.struct _) | some (.array _ _) => true
  | _ => false

/-- Are the fields one behind the other from cell o on? -/
def contig (P : Program) : Nat → List Field → Bool
  | _, [] => true
  | o, f :: r => match sz P f.type with
    | some n => Nat.beq f.offset o && contig P (o + n) r
    | none => false

def kinds1 (g : TypeId → Option (List Nat)) : List Field → Option (List Nat)
  | [] => some []
  | f :: r => match g f.type, kinds1 g r with
    | some x, some y => if f.name != "_" then some (x ++ y) else none
    | _, _ => none
/-- A type whose values are told apart cell by cell (numbers: 0, bools: 1, strings: 2, and structs of these): what the cells are. -/
def kinds : Nat → TypeId → Option (List Nat)
  | 0, _ => none
  | n + 1, t => match P.underlying t with
    | some (.int _) => if sz P t == some 1 then some [0] else none
    | some .bool => if sz P t == some 1 then some [1] else none
    | some .string => if sz P t == some 1 then some [2] else none
    | some (.struct fs) => if !P.stoodInHeld t && contig P 0 fs.toList then (match kinds1 (kinds n) fs.toList with
      | some ks => if sz P t == some ks.length then some ks else none
      | none => none) else none
    | _ => none

def rd1 (r : Rd) (x : Operand) : Option Io := match od x with
  | some a => some (.rd r [a])
  | none => none
def rds (r : Rd) (xs : List Operand) : Option Io := match ods xs with
  | some l => some (.rd r l)
  | none => none
def als (r : Al) (xs : List Operand) : Option Io := match ods xs with
  | some l => some (.al r l)
  | none => none
def efs (r : Ef) (xs : List Operand) : Option Io := match ods xs with
  | some l => some (.ef r l)
  | none => none

/-- Offsets and sizes of the parts. -/
def placesStruct (fs : Array Field) : List (Nat × Operand) → Option (List (Nat × Nat))
  | [] => some []
  | (i, _) :: r => match fs[i]? with
    | some f => match sz P f.type, placesStruct fs r with
      | some n, some l => some ((f.offset, n) :: l)
      | _, _ => none
    | none => none
def placesRow (w : Nat) (ps : List (Nat × Operand)) : List (Nat × Nat) := ps.map fun p => (p.1 * w, w)

def inOrder : Nat → List (Nat × Operand) → Bool
  | _, [] => true
  | n, p :: r => Nat.beq p.1 n && inOrder (n + 1) r

/-- Do all parts lie within n cells? -/
def fits (n : Nat) : List (Nat × Nat) → Bool
  | [] => true
  | p :: r => Nat.ble (p.1 + p.2) n && fits n r

/-- What a map's keys are. -/
def keyT (t : TypeId) : Option (Bool × List Nat) := match kinds P 8 t with
  | some ks => some (isAggT P t, ks)
  | none => none

def eqOp (t : TypeId) (neg : Bool) (x y : Operand) : Option Io :=
  match P.underlying t with
  | some (.int _) => rds (.bin (if neg then .neq else .eql)) [x, y]
  | some .string => rds (.bins (if neg then .neq else .eql)) [x, y]
  | some .bool => rds (.eqb neg) [x, y]
  | some (.pointer _) => rds (.eqp neg) [x, y]
  | some (.slice _) => rds (.eqs neg) [x, y]
  | some (.map _ _) => rds (.eqm neg) [x, y]
  | some (.func _ _ _) => rds (.eqf neg) [x, y]
  | some (.struct _) => match kinds P 8 t with
    | some ks => if !P.eqGuardType P.depth t then rds (.eqa neg ks) [x, y] else none
    | none => none
  | _ => none

/-- Sizes beyond these are refused. -/
def okSize (w bytes : Nat) : Bool := Nat.ble 1 w && Nat.ble 1 bytes && Nat.ble bytes 100000

noncomputable def compCall (c : Call) (_type : TypeId) : Option Io :=
  match c.callee with
  | .value f => match od f, ods c.args.toList with
    | some g, some l => some (.call g l)
    | _, _ => none
  | .invoke _ _ => none
  | .builtin b =>
    match b, c.argTypes[0]? with
    | .len, some t => match P.underlying t with
      | some .string => rds .lenstr c.args.toList
      | some (.slice _) => rds .lens c.args.toList
      | some (.map _ _) => rds .lenm c.args.toList
      | _ => none
    | .cap, some t => match P.underlying t with
      | some (.slice _) => rds .capn c.args.toList
      | _ => none
    | .max, some t => match P.underlying t with
      | some (.int _) => rds .max c.args.toList
      | _ => none
    | .append, some t => match P.underlying t with
      | some (.slice e) => match sz P e, byts P e, zeroI P e with
        | some w, some bs, some z => if okSize w bs && Nat.beq (lenN z.cells) w then
            (match c.argTypes[1]? with
              | none => none
              | some xt => match P.underlying xt with
                | some (.int _) => efs (.appz z.cells w bs) c.args.toList
                | some _ => efs (.app w bs) c.args.toList
                | none => none) else none
        | _, _, _ => none
      | _ => none
    | .copy, some t => match P.underlying t with
      | some (.slice e) => match sz P e with
        | some w => if Nat.ble 1 w then efs (.copy w) c.args.toList else none
        | none => none
      | _ => none
    | .clear, some t => match P.underlying t with
      | some (.slice e) => match zeroI P e with
        | some z => if Nat.ble 1 (lenN z.cells) then efs (.clear z.cells) c.args.toList else none
        | none => none
      | _ => none
    | _, _ => none

noncomputable def compOp (o : Oper) : Option Io :=
  match o.op with
  | .move x | .assign x => rd1 .mv x
  | .pick c a b => rds .pick [c, a, b]
  | .alloc e => match zeroI P e with
    | some z => some (.al (.alloc z.cells) [])
    | none => none
  | .box _ x => als .box [x]
  | .build t parts => match zeroI P t, P.underlying t with
    | some (.agg z), some (.struct fs) => match placesStruct P fs parts.toList with
      | some ps => if fs.toList.all (fun f => (sz P f.type).isSome) && fits z.length ps then rds (.build z ps) (parts.toList.map (·.2)) else none
      | none => none
    | some (.agg z), some (.array _ e) => match sz P e with
      | some w => if fits z.length (placesRow w parts.toList) then rds (.build z (placesRow w parts.toList)) (parts.toList.map (·.2)) else none
      | none => none
    | _, _ => none
  | .buildSlice t len parts => match P.underlying t with
    | some (.slice e) => match sz P e, zeroI P e with
      | some w, some z => if Nat.ble (len * w) 1000000 && Nat.beq (lenN z.cells) w && Nat.ble 1 w then
          (if inOrder 0 parts.toList && Nat.beq parts.size len then als (.rows len w) (parts.toList.map (·.2)) else if fits (len * w) (placesRow w parts.toList) then als (.bsl (repeatCells z.cells len) len w (placesRow w parts.toList)) (parts.toList.map (·.2)) else none) else none
      | _, _ => none
    | _ => none
  | .insert t m k v | .mapUpdate t m k v => match P.underlying t with
    | some (.map kt _) => match keyT P kt with
      | some (ag, ks) => efs (.upd ag ks) [m, k, v]
      | none => none
    | _ => none
  | .mapEntry t m k => match P.underlying t with
    | some (.map kt e) => match zeroI P e, keyT P kt with
      | some z, some (ag, ks) => efs (.ment ag ks z) [m, k]
      | _, _ => none
    | _ => none
  | .entryStore _ m s v => efs .esto [m, s, v]
  | .load t a => if isAggT P t then (match sz P t with
      | some n => rd1 (.ld n) a
      | none => none) else (match P.underlying t with
      | some _ => rd1 .ld1 a
      | none => none)
  | .store t a v => match sz P t with
    | some n => efs (.st n) [a, v]
    | none => none
  | .nilCheck x => rd1 .nilck x
  | .binOp op t x y _ => match op with
    | .eql => eqOp P t false x y
    | .neq => eqOp P t true x y
    | op => match P.underlying t with
      | some (.int _) => rds (.bin op) [x, y]
      | some .string => rds (.bins op) [x, y]
      | _ => none
  | .unOp op _ x => match op with
    | .neg => rd1 .neg x
    | .not => rd1 .not x
    | _ => none
  | .convert s d x => match P.underlying s, P.underlying d with
    | some (.int _), some (.int k) => rd1 (.cvi k) x
    | some .string, some .string => rd1 .cvid x
    | some (.slice e), some .string => match P.underlying e with
      | some (.int .u8) => rd1 .cvbs x
      | _ => none
    | _, _ => none
  | .makeInterface t x => match P.underlying t with
    | some (.interface _) => none
    | some _ => if t < 1000000 then rd1 (.mki t) x else none
    | none => none
  | .makeFunc fn first captured => match fn with
    | .func f => if f < 1000000 ∧ first.size = 0 then rds (.mkf (pos f)) captured.toList else none
    | _ => none
  | .makeMap _ none => some (.al .mkm [])
  | .makeSlice t l c => match P.underlying t with
    | some (.slice e) => match sz P e, byts P e, zeroI P e with
      | some w, some bs, some z => if okSize w bs && Nat.beq (lenN z.cells) w then als (.mks z.cells w bs) [l, c] else none
      | _, _, _ => none
    | _ => none
  | .slice t x lo hi none =>
    match ods ([x] ++ lo.toList ++ hi.toList) with
    | none => none
    | some l => match P.underlying t with
      | some (.slice e) => match sz P e with
        | some w => some (.rd (.slc w lo.isSome hi.isSome) l)
        | none => none
      | some .string => some (.rd (.sls lo.isSome hi.isSome) l)
      | _ => none
  | .fieldAddr s x f => match P.underlying s with
    | some (.struct fs) => match fs[f]? with
      | some fd => match sz P fd.type with
        | some n => if Nat.beq n 0 then none else rd1 (.fa fd.offset) x
        | none => none
      | none => none
    | _ => none
  | .field t x f => match P.underlying t with
    | some (.struct fs) => match fs[f]? with
      | some fd => match sz P fd.type with
        | some n => if isAggT P fd.type then rd1 (.fld fd.offset n) x else (match P.underlying fd.type with
          | some _ => rd1 (.fld1 fd.offset) x
          | none => none)
        | none => none
      | none => none
    | _ => none
  | .indexAddr t x ix => match P.underlying t with
    | some (.slice e) => match sz P e with
      | some w => if Nat.ble 1 w then rds (.ia w) [x, ix] else none
      | none => none
    | some (.array n e) => match sz P e with
      | some w => if Nat.ble 1 w then rds (.iaa n w) [x, ix] else none
      | none => none
    | _ => none
  | .index t x ix => match P.underlying t with
    | some .string => rds .ixs [x, ix]
    | some (.array n e) => match sz P e with
      | some w => if isAggT P e then rds (.ix n w) [x, ix] else (match P.underlying e with
        | some _ => if Nat.beq w 1 then rds (.ix1 n) [x, ix] else none
        | none => none)
      | none => none
    | _ => none
  | .lookup t x ix ok => match P.underlying t with
    | some (.map kt e) => match zeroI P e, keyT P kt with
      | some z, some (ag, ks) => rds (.look ag ks z ok) [x, ix]
      | _, _ => none
    | _ => none
  | .extract x i => rd1 (.ext i) x
  | .call c => compCall P c o.type
  | _ => none

def guardOf (ops : Array Oper) : Option (Nat × Bool) → Option (Option (Pos × Bool))
  | none => some none
  | some (j, w) => match ops[j]? with
    | some o => match o.dst with
      | some t => if Nat.blt t 1000000 then some (some (pos t, w)) else none
      | none => none
    | none => none

noncomputable def compOps (z : Oper → Bool) (nt : Nat) (all : Array Oper) : List Oper → List Nat → List IOper
  | o :: r, bs => (match guardOf all o.guard with
      | some g => (match o.dst with
        | some d => if Nat.blt d nt then { dst := some (pos d), op := (compOp P o).getD .bad, guard := g, bits := bs.headD 0, fz := z o } else { dst := none, op := .bad, guard := none, bits := 0 }
        | none => { dst := none, op := (compOp P o).getD .bad, guard := g, bits := bs.headD 0, fz := z o })
      | none => { dst := none, op := .bad, guard := none, bits := 0 }) :: compOps z nt all r bs.tail
  | [], _ => []

def Io.ods : Io → List Od
  | .rd _ xs | .al _ xs | .ef _ xs => xs
  | .call f xs => f :: xs
  | .bad => []
def looksO : List Od → List Pos
  | [] => []
  | .t n :: r => n :: looksO r
  | .c _ :: r => looksO r
def looksG : Option (Pos × Bool) → List Pos
  | some (t, _) => [t]
  | none => []
def hasP (p : Pos) : List Pos → Bool
  | [] => false
  | q :: r => p == q || hasP p r
/-- The temporaries that an operation looks at. -/
def looksAt (o : IOper) : List Pos := looksG o.guard ++ looksO o.op.ods

/-- One operation against one before it: they are ordered, or apart. -/
def pairOk (x : Nat) (ox oy : IOper) : Bool :=
  Nat.testBit oy.bits x ||
    ((match ox.dst with
      | some d => !(hasP d (looksAt oy)) && !(oy.dst == some d)
      | none => true) &&
     (match oy.dst with
      | some d => !(hasP d (looksAt ox))
      | none => true) &&
     !(isEffect ox.op && isEffect oy.op))

def pairsOk : List (Nat × IOper) → IOper → Bool
  | [], _ => true
  | (x, ox) :: r, oy => pairOk x ox oy && pairsOk r oy
def afterOk (n : Nat) (o : Oper) : Bool := o.after.toList.all fun e => !Region.binds .any e || Nat.blt e.on n
def allOk : List (Nat × IOper) → Nat → List (Oper × IOper) → Bool
  | _, _, [] => true
  | done, n, o :: r => pairsOk done o.2 && afterOk n o.1 && allOk ((n, o.2) :: done) (n + 1) r

def drawOk (ops : List Oper) (l : List IOper) : Bool := allOk [] 0 (ops.zip l)

noncomputable def compCode (z : Oper → Bool) (nt : Nat) : Code → ICode
  | .skip => .skip
  | .region _ ops false => .ops (compOps P z nt ops ops.toList (List.replicate ops.size 0))
  | .region _ ops true =>
    let l := compOps P (fun _ => false) nt ops ops.toList (Region.before ops).toList
    if drawOk ops.toList l then .draw l else .bad
  | .seq a b => .seq (compCode z nt a) (compCode z nt b)
  | .cond c a b => match od c with
    | some x => .cond x (compCode z nt a) (compCode z nt b)
    | none => .bad
  | .block id b => .block id (compCode z nt b)
  | .loop b => .loop (compCode z nt b)
  | .exit id => .exit id
  | .ret => .ret
  | _ => .bad

def compRes (P : Program) : List ResultVar → Option (List IRes)
  | [] => some []
  | r :: rs => match (match r with
      | .tmp t => if Nat.blt t 1000000 then some (.t (pos t)) else none
      | .cell a t => if Nat.blt a 1000000 then (if isAggT P t then (match sz P t with
          | some n => some (.cell (pos a) n)
          | none => none) else (match P.underlying t with
          | some _ => some (.cell1 (pos a))
          | none => none)) else none : Option IRes), compRes P rs with
    | some x, some l => some (x :: l)
    | _, _ => none

noncomputable def compFn (Z : Nat → Oper → Bool) (f : Nat) : Option IFn :=
  match P.funcs[f]? with
  | some fn => match fn.body, compRes P fn.results.toList with
    | some c, some rs => if fn.ntmps ≤ 100000 ∧ fn.name ≠ "runtime.NumGoroutine" then some { nt := fn.ntmps, res := rs, body := compCode P (Z f) fn.ntmps c } else none
    | _, _ => none
  | none => none
end
end Go.Fg
/- The ideal machine: trees and roads. -/
namespace Go.Fg

theorem Pos.num_pos : ∀ p : Pos, 1 ≤ p.num
  | .h => Nat.le_refl 1
  | .o p => by have := Pos.num_pos p; simp only [Pos.num]; omega
  | .i p => by have := Pos.num_pos p; simp only [Pos.num]; omega

theorem Pos.num_inj : ∀ {p q : Pos}, p.num = q.num → p = q
  | .h, .h, _ => rfl
  | .h, .o q, e => by have := Pos.num_pos q; simp only [Pos.num] at e; omega
  | .h, .i q, e => by have := Pos.num_pos q; simp only [Pos.num] at e; omega
  | .o p, .h, e => by have := Pos.num_pos p; simp only [Pos.num] at e; omega
  | .i p, .h, e => by have := Pos.num_pos p; simp only [Pos.num] at e; omega
  | .o p, .o q, e => by simp only [Pos.num] at e; rw [Pos.num_inj (p := p) (q := q) (by omega)]
  | .i p, .i q, e => by simp only [Pos.num] at e; rw [Pos.num_inj (p := p) (q := q) (by omega)]
  | .o p, .i q, e => by simp only [Pos.num] at e; omega
  | .i p, .o q, e => by simp only [Pos.num] at e; omega

theorem Pos.nxt_h : Pos.nxt .h = .o .h := rfl
theorem Pos.nxt_o (p : Pos) : Pos.nxt (.o p) = .i p := rfl
theorem Pos.nxt_i (p : Pos) : Pos.nxt (.i p) = .o p.nxt := rfl
theorem Pos.num_nxt : ∀ p : Pos, p.nxt.num = p.num + 1
  | .h => rfl
  | .o p => by rw [Pos.nxt_o]; simp only [Pos.num]
  | .i p => by rw [Pos.nxt_i]; simp only [Pos.num]; have := Pos.num_nxt p; omega

theorem num_posF : ∀ f n, 1 ≤ n → n < 2 ^ (f + 1) → (posF f n).num = n := by
  intro f
  induction f with
  | zero => intro n h1 h2; simp only [posF, Pos.num]; omega
  | succ f ih =>
    intro n h1 h2
    have h3 : 2 ^ (f + 1 + 1) = 2 * 2 ^ (f + 1) := by rw [Nat.pow_succ]; omega
    unfold posF
    by_cases a : n ≤ 1
    · simp only [a, if_true, Pos.num]; omega
    · simp only [a, if_false]
      have := ih (n / 2) (by omega) (by omega)
      by_cases b : n % 2 = 1
      · simp only [b, if_true, Pos.num]; omega
      · simp only [b, if_false, Pos.num]; omega

theorem num_pos {n : Nat} (h : n < 1000000) : (pos n).num = n + 1 := num_posF 64 (n + 1) (by omega) (by
  have : (1000000 : Nat) < 2 ^ (64 + 1) := by decide
  omega)
theorem pos_inj {m n : Nat} (hm : m < 1000000) (hn : n < 1000000) (h : pos m = pos n) : m = n := by
  have := congrArg Pos.num h
  rw [num_pos hm, num_pos hn] at this
  omega

theorem Pos.eq_h_h : Pos.eq .h .h = true := rfl
theorem beq_no {m n : Nat} (h : m ≠ n) : Nat.beq m n = false := by
  cases hb : Nat.beq m n with
  | false => rfl
  | true => exact absurd (Nat.eq_of_beq_eq_true hb) h
theorem ble_no {m n : Nat} (h : ¬ m ≤ n) : Nat.ble m n = false := by
  cases hb : Nat.ble m n with
  | false => rfl
  | true => exact absurd (Nat.le_of_ble_eq_true hb) h
theorem Pos.eq_true : ∀ {p q : Pos}, Pos.eq p q = true → p = q
  | .h, .h, _ => rfl
  | .h, .o _, e => by cases e
  | .h, .i _, e => by cases e
  | .o _, .h, e => by cases e
  | .i _, .h, e => by cases e
  | .o p, .o q, e => by rw [Pos.eq_true (p := p) (q := q) e]
  | .i p, .i q, e => by rw [Pos.eq_true (p := p) (q := q) e]
  | .o _, .i _, e => by cases e
  | .i _, .o _, e => by cases e

namespace PT
variable {α : Type}
theorem get_nil (p : Pos) : get (.nil : PT α) p = none := rfl
theorem get_nd_h (l r : PT α) (v : Option α) : get (.nd l v r) .h = v := rfl
theorem get_nd_o (l r : PT α) (v : Option α) (p : Pos) : get (.nd l v r) (.o p) = get l p := rfl
theorem get_nd_i (l r : PT α) (v : Option α) (p : Pos) : get (.nd l v r) (.i p) = get r p := rfl
theorem put_h_nil (x : Option α) : put (.nil : PT α) .h x = .nd .nil x .nil := rfl
theorem put_h_nd (l r : PT α) (v x : Option α) : put (.nd l v r) .h x = .nd l x r := rfl
theorem put_o_nil (p : Pos) (x : Option α) : put (.nil : PT α) (.o p) x = .nd (put .nil p x) none .nil := rfl
theorem put_o_nd (l r : PT α) (v x : Option α) (p : Pos) : put (.nd l v r) (.o p) x = .nd (put l p x) v r := rfl
theorem put_i_nil (p : Pos) (x : Option α) : put (.nil : PT α) (.i p) x = .nd .nil none (put .nil p x) := rfl
theorem put_i_nd (l r : PT α) (v x : Option α) (p : Pos) : put (.nd l v r) (.i p) x = .nd l v (put r p x) := rfl

theorem get_put_eq (p : Pos) : ∀ (t : PT α) (x : Option α), get (put t p x) p = x := by
  induction p with
  | h => intro t x; cases t <;> rfl
  | o p ih => intro t x; cases t with
    | nil => rw [put_o_nil, get_nd_o, ih]
    | nd l v r => rw [put_o_nd, get_nd_o, ih]
  | i p ih => intro t x; cases t with
    | nil => rw [put_i_nil, get_nd_i, ih]
    | nd l v r => rw [put_i_nd, get_nd_i, ih]

theorem get_put_ne (p : Pos) : ∀ (q : Pos) (t : PT α) (x : Option α), q ≠ p → get (put t p x) q = get t q := by
  induction p with
  | h => intro q t x h; cases t <;> cases q <;> first | exact absurd rfl h | rfl
  | o p ih =>
    intro q t x h
    cases t with
    | nil =>
      rw [put_o_nil]
      cases q with
      | h => rfl
      | o q => rw [get_nd_o, ih q _ _ (fun e => h (by rw [e]))]; rfl
      | i q => rfl
    | nd l v r =>
      rw [put_o_nd]
      cases q with
      | h => rfl
      | o q => rw [get_nd_o, get_nd_o, ih q _ _ (fun e => h (by rw [e]))]
      | i q => rfl
  | i p ih =>
    intro q t x h
    cases t with
    | nil =>
      rw [put_i_nil]
      cases q with
      | h => rfl
      | i q => rw [get_nd_i, ih q _ _ (fun e => h (by rw [e]))]; rfl
      | o q => rfl
    | nd l v r =>
      rw [put_i_nd]
      cases q with
      | h => rfl
      | i q => rw [get_nd_i, get_nd_i, ih q _ _ (fun e => h (by rw [e]))]
      | o q => rfl
end PT

theorem Hp.get_set_eq (h : Hp) (b : Pos) (x : Blk) : (h.set b x).get b = some x := PT.get_put_eq b _ _
theorem Hp.get_set_ne (h : Hp) {b c : Pos} (x : Blk) (e : c ≠ b) : (h.set b x).get c = h.get c := PT.get_put_ne b c _ _ e
theorem Hp.get_new_eq (h : Hp) (x : Blk) : (h.new x).get h.next = some x := PT.get_put_eq _ _ _
theorem Hp.get_new_ne (h : Hp) {c : Pos} (x : Blk) (e : c ≠ h.next) : (h.new x).get c = h.get c := PT.get_put_ne _ c _ _ e
theorem Hp.get_kill_eq (h : Hp) (b : Pos) : (h.kill b).get b = none := PT.get_put_eq b _ _
theorem Hp.get_kill_ne (h : Hp) {b c : Pos} (e : c ≠ b) : (h.kill b).get c = h.get c := PT.get_put_ne b c _ _ e
theorem Hp.next_set (h : Hp) (b : Pos) (x : Blk) : (h.set b x).next = h.next := rfl
theorem Hp.next_kill (h : Hp) (b : Pos) : (h.kill b).next = h.next := rfl
theorem Hp.next_new (h : Hp) (x : Blk) : (h.new x).next = h.next.nxt := rfl

theorem Fm.at_putd_eq (τ : Fm) (t : Pos) (v : IV) : Fm.at (putd τ (some t) v) t = v := by
  unfold Fm.at putd; rw [PT.get_put_eq]; rfl
theorem Fm.at_putd_ne (τ : Fm) {t u : Pos} (v : IV) (e : u ≠ t) : Fm.at (putd τ (some t) v) u = Fm.at τ u := by
  unfold Fm.at putd; rw [PT.get_put_ne _ _ _ _ e]

/-! ### Numbers, lists -/
theorem kEq_iff (k j : IntKind) : kEq k j = true ↔ k = j := by cases k <;> cases j <;> simp [kEq, ikn]
theorem kEq_false {k j : IntKind} (h : kEq k j = false) : k ≠ j := fun e => by rw [(kEq_iff k j).2 e] at h; cases h
theorem notB_eq (x : Bool) : notB x = !x := by cases x <;> rfl
theorem ieq_eq (a b : Int) : ieq a b = (a == b) := by
  cases a with
  | ofNat m => cases b with
    | ofNat n =>
      show Nat.beq m n = _
      by_cases h : m = n
      · subst h; simp
      · rw [beq_no h]; symm; simp; omega
    | negSucc n => show false = _; symm; simp
  | negSucc m => cases b with
    | ofNat n => show false = _; symm; simp
    | negSucc n =>
      show Nat.beq m n = _
      by_cases h : m = n
      · subst h; simp
      · rw [beq_no h]; symm; simp; omega
theorem ile_eq (a b : Int) : ile a b = decide (a ≤ b) := by
  cases a with
  | ofNat m => cases b with
    | ofNat n =>
      show Nat.ble m n = _
      by_cases h : m ≤ n
      · rw [Nat.ble_eq_true_of_le h]; symm; simp; omega
      · rw [ble_no h]; symm; simp; omega
    | negSucc n => show false = _; symm; simp; omega
  | negSucc m => cases b with
    | ofNat n => show true = _; symm; simp; omega
    | negSucc n =>
      show Nat.ble n m = _
      by_cases h : n ≤ m
      · rw [Nat.ble_eq_true_of_le h]; symm; simp; omega
      · rw [ble_no h]; symm; simp; omega
theorem iadd_eq (a b : Int) : iadd a b = a + b := by
  cases a <;> cases b <;> rfl
theorem isub_eq (a b : Int) : isub a b = a - b := by
  cases a with
  | ofNat m => cases b with
    | ofNat n =>
      show ifI (Nat.ble n m) (.ofNat (Nat.sub m n)) (Int.sub (.ofNat m) (.ofNat n)) = _
      by_cases h : n ≤ m
      · rw [Nat.ble_eq_true_of_le h]
        show Int.ofNat (m - n) = Int.ofNat m - Int.ofNat n
        simp only [Int.ofNat_eq_natCast]; omega
      · rw [ble_no h]; rfl
    | negSucc n => rfl
  | negSucc m => rfl
theorem ifI_eq (c : Bool) (a b : Int) : ifI c a b = if c then a else b := by cases c <;> rfl

theorem seq_eq : ∀ x y : List Nat, seq x y = (x == y)
  | [], [] => rfl
  | [], _ :: _ => rfl
  | _ :: _, [] => rfl
  | a :: x, b :: y => by
    show cond (Nat.beq a b) (seq x y) false = _
    rw [seq_eq x y]
    by_cases h : a = b
    · subst h; simp
    · rw [beq_no h]; symm; simp [h]

theorem lenN_eq : ∀ l : List IV, lenN l = l.length
  | [] => rfl
  | _ :: l => congrArg Nat.succ (lenN_eq l)
theorem takeN_eq : ∀ n (l : List IV), takeN n l = l.take n
  | 0, l => by simp; rfl
  | n + 1, [] => by simp; rfl
  | n + 1, a :: l => by show a :: takeN n l = _; rw [takeN_eq n l]; rfl
theorem dropN_eq : ∀ n (l : List IV), dropN n l = l.drop n
  | 0, l => rfl
  | n + 1, [] => rfl
  | n + 1, a :: l => by show dropN n l = _; rw [dropN_eq n l]; rfl
theorem nth_eq : ∀ n (l : List IV), nth n l = l[n]?
  | 0, [] => rfl
  | 0, _ :: _ => rfl
  | n + 1, [] => rfl
  | n + 1, a :: l => by show nth n l = _; rw [nth_eq n l]; rfl
theorem app_eq : ∀ x y : List IV, app x y = x ++ y
  | [], _ => rfl
  | a :: x, y => congrArg (a :: ·) (app_eq x y)
theorem allAtoms_eq : ∀ l : List IV, allAtoms l = l.all isAtomV
  | [] => rfl
  | a :: l => by
    show cond (isAtomV a) (allAtoms l) false = _
    rw [allAtoms_eq l, List.all_cons]
    cases isAtomV a <;> rfl
theorem length_lay : ∀ vs l : List IV, (lay vs l).length = l.length
  | [], _ => rfl
  | _ :: _, [] => rfl
  | v :: vs, a :: l => by show (v :: lay vs l).length = _; simp [length_lay vs l]
theorem length_layAt : ∀ o (vs l : List IV), (layAt o vs l).length = l.length
  | 0, vs, l => length_lay vs l
  | _ + 1, _, [] => rfl
  | o + 1, vs, a :: l => by show (a :: layAt o vs l).length = _; simp [length_layAt o vs l]
theorem get_lay : ∀ (vs l : List IV) (i : Nat), vs.length ≤ l.length → (lay vs l)[i]? = if i < vs.length then vs[i]? else l[i]?
  | [], l, i, _ => by simp; rfl
  | v :: vs, [], i, h => by simp at h
  | v :: vs, a :: l, 0, _ => by show (v :: lay vs l)[0]? = _; simp
  | v :: vs, a :: l, i + 1, h => by
    show (v :: lay vs l)[i + 1]? = _
    have := get_lay vs l i (by simpa using h)
    simp only [List.getElem?_cons_succ, this, List.length_cons]
    by_cases c : i < vs.length
    · rw [if_pos c, if_pos (by omega)]
    · rw [if_neg c, if_neg (by omega)]
theorem get_layAt : ∀ (o : Nat) (vs l : List IV) (i : Nat), o + vs.length ≤ l.length → (layAt o vs l)[i]? = if o ≤ i ∧ i < o + vs.length then vs[i - o]? else l[i]?
  | 0, vs, l, i, h => by
    show (lay vs l)[i]? = _
    rw [get_lay vs l i (by omega)]; simp
  | o + 1, vs, [], i, h => by simp at h
  | o + 1, vs, a :: l, 0, _ => by show (a :: layAt o vs l)[0]? = _; simp
  | o + 1, vs, a :: l, i + 1, h => by
    show (a :: layAt o vs l)[i + 1]? = _
    have := get_layAt o vs l i (by simp at h; omega)
    simp only [List.getElem?_cons_succ, this]
    by_cases c : o ≤ i ∧ i < o + vs.length
    · rw [if_pos c, if_pos (by omega), show i + 1 - (o + 1) = i - o by omega]
    · rw [if_neg c, if_neg (by omega)]
end Go.Fg
/- The ideal machine: how its values and memory stand for the model's. -/

namespace Go.Fg

/-- Where an ideal block lies: the model's block, how far in, how many cells that block has. -/
structure Loc where
  r : Nat
  sh : Nat
  sz : Nat

/-- What a block that no one writes any more holds. -/
inductive IB where
  | c (l : List IV)
  | m (ks vs : List IV)
/-- Names, and the blocks that no one writes any more: what is in them, which block, from where on. -/
structure Emb where
  m : Pos → Option Loc
  im : IB → Nat → Nat → Prop
instance : CoeFun Emb (fun _ => Pos → Option Loc) := ⟨Emb.m⟩
def Emb.bare (ι : Emb) : Emb := ⟨fun _ => none, ι.im⟩

mutual
inductive VR (ι : Emb) : IV → Value → Prop where
  | b (x : Bool) : VR ι (.b x) (.bool x)
  | i (k : IntKind) (n : Int) : VR ι (.i k n) (.int k n)
  | s (l : List Nat) (bs : ByteArray) (h : bs.data.toList.map UInt8.toNat = l) : VR ι (.s l) (.string bs)
  | p (b : Pos) (o : Nat) (L : Loc) (h : ι b = some L) : VR ι (.p b o) (.pointer (some ⟨L.r, L.sh + o, none⟩))
  | pn : VR ι .pn (.pointer none)
  | sl (b : Pos) (o n c z : Nat) (L : Loc) (c' : Nat) (h : ι b = some L) (hn : n ≤ c') (hc : c = 0 ∨ c = c' + 1) (hz : L.sh + o + c' * z ≤ L.sz) : VR ι (.sl b o n c z) (.slice (some ⟨L.r, L.sh + o, none⟩) n c')
  | sle (b : Pos) (o c z : Nat) (L : Loc) (a : Addr) (h : ι b = some L) (hc : c = 0 ∨ c = 1) : VR ι (.sl b o 0 c z) (.slice (some a) 0 0)
  | sn : VR ι .sn (.slice none 0 0)
  | m (r : Pos) (L : Loc) (h : ι r = some L) : VR ι (.m r) (.map (some L.r))
  | mn : VR ι .mn (.map none)
  | f (n : Nat) (hn : n < 1000000) (caps : List IV) (caps' : Array Value) (h : VRs ι caps caps'.toList) : VR ι (.f (pos n) caps) (.func (.func n) #[] caps')
  | fn : VR ι .fn .nilFunc
  | agg (l : List IV) (l' : Array Value) (h : VRs ι l l'.toList) : VR ι (.agg l) (.agg l')
  | tup (l : List IV) (l' : Array Value) (h : VRs ι l l'.toList) : VR ι (.tup l) (.tuple l')
  | ic (t : Nat) (ht : t < 1000000) (v : IV) (v' : Value) (h : VR ι v v') : VR ι (.ic t v) (.iface t v')
  | fb (n : Nat) (hn : n < 1000000) (l : List IV) (l' : Array Value) (h : VRs ι l l'.toList) : VR ι (.ic (n + 1000000) (.tup l)) (.func (.func n) l' #[])
  | inn : VR ι .inn .nilIface
  | pi (l l0 : List IV) (r sh d : Nat) (h : ι.im (.c l0) r sh) (hw : l <+: l0.drop d) : VR ι (.pi l) (.pointer (some ⟨r, sh + d, none⟩))
  | sli (es : List (List IV)) (l0 : List IV) (r sh d z c : Nat) (h : ι.im (.c l0) r sh) (hw : es.flatten <+: l0.drop d) (hz : ∀ e ∈ es, e.length = z) (hc : es.length ≤ c) : VR ι (.sli es) (.slice (some ⟨r, sh + d, none⟩) es.length c)
  | sli0 (a : Addr) (c : Nat) : VR ι (.sli []) (.slice (some a) 0 c)
  | slin : VR ι (.sli []) (.slice none 0 0)
  | mi (ks vs : List IV) (r : Nat) (h : ι.im (.m ks vs) r 0) : VR ι (.mi ks vs) (.map (some r))
  | min : VR ι (.mi [] []) (.map none)
inductive VRs (ι : Emb) : List IV → List Value → Prop where
  | nil : VRs ι [] []
  | cons (x : IV) (y : Value) (xs : List IV) (ys : List Value) (h : VR ι x y) (t : VRs ι xs ys) : VRs ι (x :: xs) (y :: ys)
end

def Emb.le (ι ι' : Emb) : Prop := (∀ b L, ι b = some L → ι' b = some L) ∧ ∀ x r sh, ι.im x r sh → ι'.im x r sh
theorem Emb.le.refl (ι : Emb) : ι.le ι := ⟨fun _ _ h => h, fun _ _ _ h => h⟩
theorem Emb.le.trans {ι₁ ι₂ ι₃ : Emb} (h : ι₁.le ι₂) (h' : ι₂.le ι₃) : ι₁.le ι₃ := ⟨fun b L e => h'.1 b L (h.1 b L e), fun x r sh e => h'.2 x r sh (h.2 x r sh e)⟩
theorem Emb.le.bare {ι₁ ι₂ : Emb} (h : ι₁.le ι₂) : ι₁.bare.le ι₂.bare := ⟨fun _ _ e => (by cases e), h.2⟩
theorem Emb.bare_le (ι : Emb) : ι.bare.le ι := ⟨fun _ _ e => (by cases e), fun _ _ _ h => h⟩

mutual
theorem VR.mono {ι ι' : Emb} (hle : ι.le ι') : ∀ {x : IV} {y : Value}, VR ι x y → VR ι' x y
  | _, _, .b x => .b x
  | _, _, .i k n => .i k n
  | _, _, .s l bs h => .s l bs h
  | _, _, .p b o L h => .p b o L (hle.1 _ _ h)
  | _, _, .pn => .pn
  | _, _, .sl b o n c z L c' h hn hc hz => .sl b o n c z L c' (hle.1 _ _ h) hn hc hz
  | _, _, .sle b o c z L a h hc => .sle b o c z L a (hle.1 _ _ h) hc
  | _, _, .sn => .sn
  | _, _, .m r L h => .m r L (hle.1 _ _ h)
  | _, _, .mn => .mn
  | _, _, .f n hn caps caps' h => .f n hn caps caps' (VRs.mono hle h)
  | _, _, .fn => .fn
  | _, _, .agg l l' h => .agg l l' (VRs.mono hle h)
  | _, _, .tup l l' h => .tup l l' (VRs.mono hle h)
  | _, _, .ic t ht v v' h => .ic t ht v v' (VR.mono hle h)
  | _, _, .fb n hn l l' h => .fb n hn l l' (VRs.mono hle h)
  | _, _, .inn => .inn
  | _, _, .pi l l0 r sh d h hw => .pi l l0 r sh d (hle.2 _ _ _ h) hw
  | _, _, .sli es l0 r sh d z c h hw hz hc => .sli es l0 r sh d z c (hle.2 _ _ _ h) hw hz hc
  | _, _, .sli0 a c => .sli0 a c
  | _, _, .slin => .slin
  | _, _, .mi ks vs r h => .mi ks vs r (hle.2 _ _ _ h)
  | _, _, .min => .min
theorem VRs.mono {ι ι' : Emb} (hle : ι.le ι') : ∀ {x : List IV} {y : List Value}, VRs ι x y → VRs ι' x y
  | _, _, .nil => .nil
  | _, _, .cons x y xs ys h t => .cons x y xs ys (VR.mono hle h) (VRs.mono hle t)
end

theorem VRs.length {ι : Emb} : ∀ {x : List IV} {y : List Value}, VRs ι x y → y.length = x.length
  | _, _, .nil => rfl
  | _, _, .cons _ _ _ _ _ t => by simp [VRs.length t]
theorem VRs.get {ι : Emb} : ∀ {x : List IV} {y : List Value} {i : Nat} {v : IV}, VRs ι x y → x[i]? = some v → ∃ v', y[i]? = some v' ∧ VR ι v v'
  | _, _, _, _, .nil, h => by simp at h
  | _, _, 0, _, .cons x y xs ys hx _, h => by
    simp at h; subst h; exact ⟨y, by simp, hx⟩
  | _, _, i + 1, _, .cons x y xs ys _ t, h => by
    simp at h
    obtain ⟨v', e, r⟩ := VRs.get t h
    exact ⟨v', by simpa using e, r⟩
theorem VRs.of_get {ι : Emb} : ∀ {x : List IV} {y : List Value}, y.length = x.length → (∀ (i : Nat) (v : IV), x[i]? = some v → ∃ v', y[i]? = some v' ∧ VR ι v v') → VRs ι x y
  | [], [], _, _ => .nil
  | [], _ :: _, h, _ => by simp at h
  | _ :: _, [], h, _ => by simp at h
  | a :: x, b :: y, h, k => by
    obtain ⟨v', e, r⟩ := k 0 a (by simp)
    simp at e; subst e
    refine .cons _ _ _ _ r (VRs.of_get (by simpa using h) fun i v hv => ?_)
    obtain ⟨v', e, r⟩ := k (i + 1) v (by simpa using hv)
    exact ⟨v', by simpa using e, r⟩
theorem VRs.append {ι : Emb} : ∀ {x x₂ : List IV} {y y₂ : List Value}, VRs ι x y → VRs ι x₂ y₂ → VRs ι (x ++ x₂) (y ++ y₂)
  | _, _, _, _, .nil, h => h
  | _, _, _, _, .cons x y xs ys h t, h₂ => .cons x y _ _ h (VRs.append t h₂)
theorem VRs.take {ι : Emb} : ∀ (n : Nat) {x : List IV} {y : List Value}, VRs ι x y → VRs ι (x.take n) (y.take n)
  | 0, _, _, _ => by simp; exact .nil
  | n + 1, _, _, .nil => .nil
  | n + 1, _, _, .cons x y xs ys h t => .cons x y _ _ h (VRs.take n t)
theorem VRs.drop {ι : Emb} : ∀ (n : Nat) {x : List IV} {y : List Value}, VRs ι x y → VRs ι (x.drop n) (y.drop n)
  | 0, _, _, h => h
  | n + 1, _, _, .nil => .nil
  | n + 1, _, _, .cons x y xs ys h t => VRs.drop n t

/-- Map entries. -/
inductive ERs (ι : Emb) : List IEnt → List MapEntry → Prop where
  | nil : ERs ι [] []
  | cons (x : IEnt) (y : MapEntry) (xs : List IEnt) (ys : List MapEntry) (hk : VR ι x.key y.key) (hv : VR ι x.val y.val) (hb : x.born = y.born) (t : ERs ι xs ys) : ERs ι (x :: xs) (y :: ys)
theorem ERs.mono {ι ι' : Emb} (hle : ι.le ι') : ∀ {x : List IEnt} {y : List MapEntry}, ERs ι x y → ERs ι' x y
  | _, _, .nil => .nil
  | _, _, .cons x y xs ys hk hv hb t => .cons x y xs ys (VR.mono hle hk) (VR.mono hle hv) hb (ERs.mono hle t)
theorem ERs.length {ι : Emb} : ∀ {x : List IEnt} {y : List MapEntry}, ERs ι x y → y.length = x.length
  | _, _, .nil => rfl
  | _, _, .cons _ _ _ _ _ _ _ t => by simp [ERs.length t]

/-- Cells. -/
def CR (ι : Emb) (n : Nat) (l : List IV) (L : Loc) (w : World) : Prop :=
  l.length = n ∧ L.sh + n ≤ L.sz ∧ ∃ (c : Array Value) (e : TypeId) (lo hi : Nat), w.heap[L.r]? = some (.cells c e (lo, hi)) ∧ c.size = L.sz ∧ (∀ o, o < L.sz → ¬ (lo ≤ o ∧ o < hi)) ∧
      ∀ i v, l[i]? = some v → ∃ v', c[L.sh + i]? = some v' ∧ VR ι v v'
/-- A map. -/
def MR (ι : Emb) (es : List IEnt) (clock : Nat) (L : Loc) (w : World) : Prop := ∃ es' : Array MapEntry, w.heap[L.r]? = some (.map es' clock) ∧ ERs ι es es'.toList
/-- A block. -/
def BR (ι : Emb) (x : Blk) (L : Loc) (w : World) : Prop :=
  match x with
  | .cells n l => CR ι n l L w
  | .map es clock => MR ι es clock L w
  | .rc n l => CR ι n l L w
  | .rm es clock => MR ι es clock L w

theorem CR.mono {ι ι' : Emb} (hle : ι.le ι') {n : Nat} {l : List IV} {L : Loc} {w w' : World} (hw : w'.heap[L.r]? = w.heap[L.r]?) (h : CR ι n l L w) : CR ι' n l L w' := by
  obtain ⟨h1, h2, c, e, lo, hi, h3, h4, h5, h6⟩ := h
  exact ⟨h1, h2, c, e, lo, hi, by rw [hw]; exact h3, h4, h5, fun i v hv => let ⟨v', e1, e2⟩ := h6 i v hv; ⟨v', e1, e2.mono hle⟩⟩
theorem MR.mono {ι ι' : Emb} (hle : ι.le ι') {es : List IEnt} {clock : Nat} {L : Loc} {w w' : World} (hw : w'.heap[L.r]? = w.heap[L.r]?) (h : MR ι es clock L w) : MR ι' es clock L w' := by
  obtain ⟨es', h1, h2⟩ := h
  exact ⟨es', by rw [hw]; exact h1, h2.mono hle⟩
theorem BR.mono {ι ι' : Emb} (hle : ι.le ι') {x : Blk} {L : Loc} {w w' : World} (hw : w'.heap[L.r]? = w.heap[L.r]?) (h : BR ι x L w) : BR ι' x L w' := by
  cases x with
  | cells n l => exact CR.mono hle hw h
  | map es clock => exact MR.mono hle hw h
  | rc n l => exact CR.mono hle hw h
  | rm es clock => exact MR.mono hle hw h

/-- Can it be written? -/
def Blk.live : Blk → Bool
  | .cells _ _ | .map _ _ => true
  | _ => false
/-- A block that no one writes any more. -/
def BI (ι : Emb) (x : IB) (r sh : Nat) (w : World) : Prop :=
  match x with
  | .c l => ∃ (c : Array Value) (e : TypeId) (fr : Nat × Nat), w.heap[r]? = some (.cells c e fr) ∧ sh + l.length ≤ c.size ∧ ∀ i v, l[i]? = some v → ∃ v', c[sh + i]? = some v' ∧ VR ι v v'
  | .m ks vs => ∃ (es' : Array MapEntry) (clock : Nat), w.heap[r]? = some (.map es' clock) ∧ VRs ι ks (es'.toList.map (·.key)) ∧ VRs ι vs (es'.toList.map (·.val))
theorem BI.mono {ι ι' : Emb} (hle : ι.le ι') {x : IB} {r sh : Nat} {w w' : World} (hw : w'.heap[r]? = w.heap[r]?) (h : BI ι x r sh w) : BI ι' x r sh w' := by
  cases x with
  | c l =>
    obtain ⟨c, e, fr, h3, h4, h6⟩ := h
    exact ⟨c, e, fr, by rw [hw]; exact h3, h4, fun i v hv => let ⟨v', e1, e2⟩ := h6 i v hv; ⟨v', e1, e2.mono hle⟩⟩
  | m ks vs =>
    obtain ⟨es', c, h1, h2, h3⟩ := h
    exact ⟨es', c, by rw [hw]; exact h1, h2.mono hle, h3.mono hle⟩
theorem BI.lt {ι : Emb} {x : IB} {r sh : Nat} {w : World} (h : BI ι x r sh w) : r < w.heap.size := by
  cases x with
  | c l => obtain ⟨c, e, fr, h3, _⟩ := h; exact (Array.getElem?_eq_some_iff.1 h3).1
  | m ks vs => obtain ⟨es', c, h1, _⟩ := h; exact (Array.getElem?_eq_some_iff.1 h1).1

structure HR (ι : Emb) (H : Hp) (w : World) : Prop where
  pro : ∀ x r sh, ι.im x r sh → BI ι.bare x r sh w
  apart : ∀ b x L y r sh, H.get b = some x → x.live = true → ι b = some L → ι.im y r sh → r ≠ L.r
  blk : ∀ b x L, H.get b = some x → ι b = some L → BR ι x L w
  inj : ∀ b₁ b₂ L₁ L₂, H.get b₁ ≠ none → H.get b₂ ≠ none → ι b₁ = some L₁ → ι b₂ = some L₂ → L₁.r = L₂.r → b₁ = b₂
  lt : ∀ b L, ι b = some L → L.r < w.heap.size
  low : ∀ b, H.get b ≠ none → b.num < H.next.num

/-- The world but for memory and the count of draws. -/
def sameOut (w w' : World) : Prop := w'.tape = w.tape ∧ w'.os = w.os ∧ w'.output = w.output ∧ ∀ a, w'.frozen? a = w.frozen? a
theorem sameOut.refl (w : World) : sameOut w w := ⟨rfl, rfl, rfl, fun _ => rfl⟩
theorem sameOut.trans {a b c : World} (h : sameOut a b) (h' : sameOut b c) : sameOut a c := ⟨h'.1.trans h.1, h'.2.1.trans h.2.1, h'.2.2.1.trans h.2.2.1, fun a => (h'.2.2.2 a).trans (h.2.2.2 a)⟩

theorem frozen_push (w : World) (c : Array Value) (e : TypeId) (a : Addr) : ({ w with heap := w.heap.push (.cells c e) } : World).frozen? a = w.frozen? a := by
  unfold World.frozen?
  by_cases h : a.block < w.heap.size
  · simp [Array.getElem?_push_lt h, h]
  · by_cases h2 : a.block = w.heap.size
    · simp [h2]
    · rw [Array.getElem?_eq_none (by simp; omega), Array.getElem?_eq_none (by omega)]
theorem frozen_map (w : World) (es : Array MapEntry) (c : Nat) (a : Addr) : ({ w with heap := w.heap.push (.map es c) } : World).frozen? a = w.frozen? a := by
  unfold World.frozen?
  by_cases h : a.block < w.heap.size
  · simp [Array.getElem?_push_lt h, h]
  · by_cases h2 : a.block = w.heap.size
    · simp [h2]
    · rw [Array.getElem?_eq_none (by simp; omega), Array.getElem?_eq_none (by omega)]

/-- What a piece of code leaves of memory. -/
structure Fin (ι : Emb) (H : Hp) (w : World) (ι' : Emb) (H' : Hp) (w' : World) : Prop where
  ext : ι.le ι'
  fresh : ∀ b, ι b = none → ι' b ≠ none → H.next.num ≤ b.num ∧ b.num < H'.next.num
  hr : HR ι' H' w'
  up : H.next.num ≤ H'.next.num
  size : w.heap.size ≤ w'.heap.size
  frame : ∀ r, r < w.heap.size → (∀ b L, ι b = some L → H.get b ≠ none → L.r ≠ r) → w'.heap[r]? = w.heap[r]?
  cover : ∀ b L, ι' b = some L → H'.get b ≠ none → L.r < w.heap.size → ∃ b₀ L₀, ι b₀ = some L₀ ∧ H.get b₀ ≠ none ∧ L₀.r = L.r
  icov : ∀ x r sh, ι'.im x r sh → r < w.heap.size → (∃ x₀ sh₀, ι.im x₀ r sh₀) ∨ ∃ b₀ L₀, ι b₀ = some L₀ ∧ H.get b₀ ≠ none ∧ L₀.r = r
  still : ∀ b, b.num < H.next.num → ι b = none → H'.get b = H.get b
  out : sameOut w w'

theorem Fin.refl {ι : Emb} {H : Hp} {w : World} (h : HR ι H w) : Fin ι H w ι H w where
  ext := .refl _
  fresh b h1 h2 := absurd h1 h2
  hr := h
  up := Nat.le_refl _
  size := Nat.le_refl _
  frame _ _ _ := rfl
  cover b L h1 h2 _ := ⟨b, L, h1, h2, rfl⟩
  icov x r sh h _ := .inl ⟨x, sh, h⟩
  still _ _ _ := rfl
  out := .refl _

theorem Fin.trans {ι₀ ι₁ ι₂ : Emb} {H₀ H₁ H₂ : Hp} {w₀ w₁ w₂ : World} (h : Fin ι₀ H₀ w₀ ι₁ H₁ w₁) (k : Fin ι₁ H₁ w₁ ι₂ H₂ w₂) : Fin ι₀ H₀ w₀ ι₂ H₂ w₂ where
  ext := h.ext.trans k.ext
  fresh b h1 h2 := by
    by_cases c : ι₁ b = none
    · have := k.fresh b c h2; have := h.up; exact ⟨by omega, by omega⟩
    · have := h.fresh b h1 c; have := k.up; exact ⟨by omega, by omega⟩
  hr := k.hr
  up := Nat.le_trans h.up k.up
  size := Nat.le_trans h.size k.size
  frame r hr hc := by
    rw [k.frame r (Nat.lt_of_lt_of_le hr h.size) ?_, h.frame r hr hc]
    intro b L e1 e2 e3
    subst e3
    obtain ⟨b₀, L₀, f1, f2, f3⟩ := h.cover b L e1 e2 hr
    exact hc b₀ L₀ f1 f2 f3
  cover b L e1 e2 hr := by
    obtain ⟨b₁, L₁, f1, f2, f3⟩ := k.cover b L e1 e2 (Nat.lt_of_lt_of_le hr h.size)
    obtain ⟨b₀, L₀, g1, g2, g3⟩ := h.cover b₁ L₁ f1 f2 (by omega)
    exact ⟨b₀, L₀, g1, g2, by omega⟩
  icov x r sh e hr := by
    rcases k.icov x r sh e (Nat.lt_of_lt_of_le hr h.size) with ⟨x₀, sh₀, f⟩ | ⟨b₁, L₁, f1, f2, f3⟩
    · exact h.icov x₀ r sh₀ f hr
    · obtain ⟨b₀, L₀, g1, g2, g3⟩ := h.cover b₁ L₁ f1 f2 (by omega)
      exact .inr ⟨b₀, L₀, g1, g2, by omega⟩
  still b hb hn := by
    have c : ι₁ b = none := by
      cases hc : ι₁ b with
      | none => rfl
      | some L => have := h.fresh b hn (by simp [hc]); omega
    rw [k.still b (Nat.lt_of_lt_of_le hb h.up) c, h.still b hb hn]
  out := h.out.trans k.out

/-- Frames. -/
def TR (ι : Emb) (τ : Fm) (a : Act) : Prop := ∀ t, t < 1000000 → VR ι (Fm.at τ (pos t)) (a.tmps.getD t undef)
theorem TR.mono {ι ι' : Emb} (hle : ι.le ι') {τ : Fm} {a : Act} (h : TR ι τ a) : TR ι' τ a := fun t ht => (h t ht).mono hle

structure St (nt : Nat) (ι : Emb) (τ : Fm) (H : Hp) (a : Act) (w : World) : Prop where
  tr : TR ι τ a
  hr : HR ι H w
  size : nt ≤ a.tmps.size
  def_ : a.defers = []

theorem vr_undef (ι : Emb) : VR ι undefd undef := .tup [] #[] .nil

theorem TR.put {ι : Emb} {τ : Fm} {a : Act} (h : TR ι τ a) {d : Nat} (hd : d < a.tmps.size) (hd' : d < 1000000) {v : IV} {v' : Value} (hv : VR ι v v') : TR ι (putd τ (some (pos d)) v) (a.put (some d) v') := by
  intro t ht
  by_cases e : t = d
  · subst e
    rw [Fm.at_putd_eq]
    simpa [Act.put, hd] using hv
  · rw [Fm.at_putd_ne _ _ (fun c => e (pos_inj ht hd' c))]
    have := h t ht
    simpa [Act.put, Array.getElem?_setIfInBounds_ne (Ne.symm e)] using this
end Go.Fg
/- The ideal machine: operands, and reading memory. -/
namespace Go.Fg

mutual
theorem ofVal_sound {ι : Emb} : ∀ (n : Nat) {v : Value} {x : IV}, ofVal n v = some x → VR ι x v
  | 0, _, _, h => by simp [ofVal] at h
  | n + 1, v, x, h => by
    unfold ofVal at h
    split at h
    · cases h; exact .b _
    · cases h; exact .i _ _
    · cases h; exact .s _ _ rfl
    · cases h; exact .pn
    · cases h; exact .sn
    · cases h; exact .mn
    · cases h; exact .fn
    · cases h; exact .inn
    · rename_i f first caps
      split at h
      · rename_i hc
        cases h
        obtain ⟨h1, h2, h3⟩ := hc
        have e1 : first = #[] := Array.eq_empty_of_size_eq_zero h2
        have e2 : caps = #[] := Array.eq_empty_of_size_eq_zero h3
        subst e1 e2
        exact .f _ h1 _ _ .nil
      · cases h
    · rename_i l
      split at h
      · rename_i r hr; cases h; exact .agg _ _ (ofVals_sound n hr)
      · cases h
    · rename_i l
      split at h
      · rename_i r hr; cases h; exact .tup _ _ (ofVals_sound n hr)
      · cases h
    · cases h
theorem ofVals_sound {ι : Emb} : ∀ (n : Nat) {v : List Value} {x : List IV}, ofVals n v = some x → VRs ι x v
  | 0, _, _, h => by simp [ofVals] at h
  | n + 1, [], x, h => by simp [ofVals] at h; subst h; exact .nil
  | n + 1, v :: vs, x, h => by
    unfold ofVals at h
    split at h
    · rename_i y ys h1 h2; cases h; exact .cons _ _ _ _ (ofVal_sound n h1) (ofVals_sound n h2)
    · cases h
end

section
variable {P : Program} {ι : Emb} {τ : Fm} {a : Act} {H : Hp} {w : World}

theorem od_sound (hT : TR ι τ a) {x : Operand} {y : Od} (h : od x = some y) : VR ι (y.ev τ) (a.eval x) := by
  unfold od at h
  split at h
  · rename_i t
    split at h
    · rename_i c
      cases h
      exact hT t (by simpa [Nat.blt_eq] using c)
    · cases h
  · rename_i v
    split at h
    · rename_i x hx; cases h; exact ofVal_sound _ hx
    · cases h
  · cases h
  · rename_i f
    split at h
    · rename_i c
      cases h
      exact .f _ (by simpa [Nat.blt_eq] using c) _ _ .nil
    · cases h

theorem ods_sound (hT : TR ι τ a) : ∀ {xs : List Operand} {ys : List Od}, ods xs = some ys → VRs ι (evs τ ys) (xs.map a.eval)
  | [], ys, h => by simp [ods] at h; subst h; exact .nil
  | x :: xs, ys, h => by
    unfold ods at h
    split at h
    · rename_i b c h1 h2; cases h; exact .cons _ _ _ _ (od_sound hT h1) (ods_sound hT h2)
    · cases h

theorem rd1_inv {r : Rd} {x : Operand} {io : Io} (h : rd1 r x = some io) : ∃ y, od x = some y ∧ io = .rd r [y] := by
  unfold rd1 at h; split at h
  · rename_i b hb; cases h; exact ⟨b, hb, rfl⟩
  · cases h
theorem rds_inv {r : Rd} {x : List Operand} {io : Io} (h : rds r x = some io) : ∃ y, ods x = some y ∧ io = .rd r y := by
  unfold rds at h; split at h
  · rename_i b hb; cases h; exact ⟨b, hb, rfl⟩
  · cases h
theorem als_inv {r : Al} {x : List Operand} {io : Io} (h : als r x = some io) : ∃ y, ods x = some y ∧ io = .al r y := by
  unfold als at h; split at h
  · rename_i b hb; cases h; exact ⟨b, hb, rfl⟩
  · cases h
theorem efs_inv {r : Ef} {x : List Operand} {io : Io} (h : efs r x = some io) : ∃ y, ods x = some y ∧ io = .ef r y := by
  unfold efs at h; split at h
  · rename_i b hb; cases h; exact ⟨b, hb, rfl⟩
  · cases h

/-! What a value can be. -/
theorem vr_b {x : Bool} {y : Value} (h : VR ι (.b x) y) : y = .bool x := by cases h; rfl
theorem vr_i {k : IntKind} {n : Int} {y : Value} (h : VR ι (.i k n) y) : y = .int k n := by cases h; rfl
theorem vr_p {b : Pos} {o : Nat} {y : Value} (h : VR ι (.p b o) y) : ∃ L, ι b = some L ∧ y = .pointer (some ⟨L.r, L.sh + o, none⟩) := by cases h; rename_i L hL; exact ⟨L, hL, rfl⟩
theorem vr_agg {l : List IV} {y : Value} (h : VR ι (.agg l) y) : ∃ l', VRs ι l l'.toList ∧ y = .agg l' := by cases h; rename_i L hL; exact ⟨L, hL, rfl⟩
theorem vr_tup {l : List IV} {y : Value} (h : VR ι (.tup l) y) : ∃ l', VRs ι l l'.toList ∧ y = .tuple l' := by cases h; rename_i L hL; exact ⟨L, hL, rfl⟩
theorem vr_s {l : List Nat} {y : Value} (h : VR ι (.s l) y) : ∃ bs, bs.data.toList.map UInt8.toNat = l ∧ y = .string bs := by cases h; rename_i L hL; exact ⟨L, hL, rfl⟩
theorem vr_pn {y : Value} (h : VR ι .pn y) : y = .pointer none := by cases h; rfl
theorem vr_sn {y : Value} (h : VR ι .sn y) : y = .slice none 0 0 := by cases h; rfl
theorem vr_mn {y : Value} (h : VR ι .mn y) : y = .map none := by cases h; rfl
theorem vr_fn {y : Value} (h : VR ι .fn y) : y = .nilFunc := by cases h; rfl
theorem vr_m {r : Pos} {y : Value} (h : VR ι (.m r) y) : ∃ L, ι r = some L ∧ y = .map (some L.r) := by cases h; rename_i L hL; exact ⟨L, hL, rfl⟩
theorem vr_sl {b : Pos} {o n c z : Nat} {y : Value} (h : VR ι (.sl b o n c z) y) :
    (∃ L c', ι b = some L ∧ n ≤ c' ∧ (c = 0 ∨ c = c' + 1) ∧ L.sh + o + c' * z ≤ L.sz ∧ y = .slice (some ⟨L.r, L.sh + o, none⟩) n c') ∨
    (∃ ad, n = 0 ∧ (c = 0 ∨ c = 1) ∧ y = .slice (some ad) 0 0) := by
  cases h
  · rename_i L c' h1 h2 h3 h4; exact .inl ⟨L, c', h1, h2, h3, h4, rfl⟩
  · rename_i L ad h0 h1; exact .inr ⟨ad, rfl, h1, rfl⟩
theorem vr_pi {l : List IV} {y : Value} (h : VR ι (.pi l) y) : ∃ l0 r sh d, ι.im (.c l0) r sh ∧ l <+: l0.drop d ∧ y = .pointer (some ⟨r, sh + d, none⟩) := by
  cases h; rename_i l0 r sh d h hw; exact ⟨l0, r, sh, d, h, hw, rfl⟩
theorem vr_sli {es : List (List IV)} {y : Value} (h : VR ι (.sli es) y) :
    (∃ l0 r sh d z c, ι.im (.c l0) r sh ∧ es.flatten <+: l0.drop d ∧ (∀ e ∈ es, e.length = z) ∧ es.length ≤ c ∧ y = .slice (some ⟨r, sh + d, none⟩) es.length c) ∨
    (es = [] ∧ ∃ ad c, y = .slice (some ad) 0 c) ∨ (es = [] ∧ y = .slice none 0 0) := by
  cases h
  · rename_i l0 r sh d z c h hw hz hc; exact .inl ⟨l0, r, sh, d, z, c, h, hw, hz, hc, rfl⟩
  · rename_i a c; exact .inr (.inl ⟨rfl, a, c, rfl⟩)
  · exact .inr (.inr ⟨rfl, rfl⟩)
theorem vr_mi {ks vs : List IV} {y : Value} (h : VR ι (.mi ks vs) y) : (∃ r, ι.im (.m ks vs) r 0 ∧ y = .map (some r)) ∨ (ks = [] ∧ vs = [] ∧ y = .map none) := by
  cases h
  · rename_i r h; exact .inl ⟨r, h, rfl⟩
  · exact .inr ⟨rfl, rfl, rfl⟩
theorem vr_sl_dom {b : Pos} {o n c z : Nat} {y : Value} (h : VR ι (.sl b o n c z) y) : ∃ L, ι b = some L := by
  cases h <;> exact ⟨_, ‹_›⟩
theorem vrs1 {x : IV} {ys : List Value} (h : VRs ι [x] ys) : ∃ y, ys = [y] ∧ VR ι x y := by
  cases h; rename_i y ys h t; cases t; exact ⟨y, rfl, h⟩
theorem vrs2 {x₁ x₂ : IV} {ys : List Value} (h : VRs ι [x₁, x₂] ys) : ∃ y₁ y₂, ys = [y₁, y₂] ∧ VR ι x₁ y₁ ∧ VR ι x₂ y₂ := by
  cases h; rename_i y ys h t; obtain ⟨y2, rfl, h2⟩ := vrs1 t; exact ⟨y, y2, rfl, h, h2⟩
theorem vrs3 {x₁ x₂ x₃ : IV} {ys : List Value} (h : VRs ι [x₁, x₂, x₃] ys) : ∃ y₁ y₂ y₃, ys = [y₁, y₂, y₃] ∧ VR ι x₁ y₁ ∧ VR ι x₂ y₂ ∧ VR ι x₃ y₃ := by
  cases h; rename_i y ys h t; obtain ⟨y2, y3, rfl, h2, h3⟩ := vrs2 t; exact ⟨y, y2, y3, rfl, h, h2, h3⟩

/-! Memory. -/
theorem addr_add (r o n : Nat) : (⟨r, o, none⟩ : Addr).add n = ⟨r, o + n, none⟩ := by
  unfold Addr.add; split
  · rename_i h; subst h; rfl
  · rfl

theorem cells_inv {b : Pos} {m : Nat} {l : List IV} (h : H.cells b = some (m, l)) : H.get b = some (.cells m l) ∨ H.get b = some (.rc m l) := by
  unfold Hp.cells cellsOf at h
  split at h
  · rename_i n l' e; cases h; exact .inl e
  · rename_i n l' e; cases h; exact .inr e
  · cases h
theorem cells_br (hH : HR ι H w) {b : Pos} {m : Nat} {l : List IV} {L : Loc} (h : H.cells b = some (m, l)) (hL : ι b = some L) : CR ι m l L w := by
  rcases cells_inv h with h | h
  · exact hH.blk b _ L h hL
  · exact hH.blk b _ L h hL
theorem cells_some {b : Pos} {m : Nat} {l : List IV} (h : H.cells b = some (m, l)) : H.get b ≠ none := by
  rcases cells_inv h with h | h <;> simp [h]
theorem cellsW_inv {b : Pos} {m : Nat} {l : List IV} (h : cellsW (H.get b) = some (m, l)) : H.get b = some (.cells m l) := by
  unfold cellsW at h
  split at h
  · rename_i n l' e; cases h; exact e
  · cases h

/-- Cells of a window that no one writes any more. -/
theorem im_get (hH : HR ι H w) {l0 : List IV} {r sh d i : Nat} {l : List IV} {v : IV} (h : ι.im (.c l0) r sh) (hw : l <+: l0.drop d) (hv : l[i]? = some v) :
    ∃ v', w.cell? ⟨r, sh + d + i, none⟩ = some v' ∧ VR ι v v' := by
  obtain ⟨c, e, fr, h1, h2, h3⟩ := hH.pro _ _ _ h
  obtain ⟨t, ht⟩ := hw
  have hi : i < l.length := (List.getElem?_eq_some_iff.1 hv).1
  have : l0[d + i]? = some v := by
    rw [← List.getElem?_drop, ← ht, List.getElem?_append_left hi]; exact hv
  obtain ⟨v', e1, e2⟩ := h3 _ _ this
  refine ⟨v', ?_, e2.mono ι.bare_le⟩
  unfold World.cell?
  simp only [h1]
  rw [show sh + d + i = sh + (d + i) by omega]
  simpa using e1
theorem im_reads (hH : HR ι H w) {l0 : List IV} {r sh d : Nat} {l : List IV} (h : ι.im (.c l0) r sh) (hw : l <+: l0.drop d) :
    ∃ l' : List Value, VRs ι l l' ∧ ∀ w2 : World, w2.heap = w.heap → (loadCells ⟨r, sh + d, none⟩ l.length).run P w2 = .ok l'.toArray w2 := by
  obtain ⟨c, e, fr, h1, h2, h3⟩ := hH.pro _ _ _ h
  obtain ⟨t, ht⟩ := hw
  have hd : l.length ≤ l0.length - d := by
    have := congrArg List.length ht
    simp at this; omega
  by_cases hl0 : l.length = 0
  · have : l = [] := by simpa using hl0
    subst this
    exact ⟨[], .nil, fun w2 _ => by simp [loadCells]; rfl⟩
  · refine ⟨(c.toList.drop (sh + d)).take l.length, ?_, ?_⟩
    · refine VRs.of_get (by simp; omega) fun i v hv => ?_
      have hi : i < l.length := (List.getElem?_eq_some_iff.1 hv).1
      have : l0[d + i]? = some v := by
        rw [← List.getElem?_drop, ← ht, List.getElem?_append_left hi]; exact hv
      obtain ⟨v', e1, e2⟩ := h3 _ _ this
      refine ⟨v', ?_, e2.mono ι.bare_le⟩
      rw [List.getElem?_take, if_pos hi, List.getElem?_drop, show sh + d + i = sh + (d + i) by omega]
      simpa using e1
    · intro w2 hw2
      have := run_loadCells_list (P := P) w2 ⟨r, sh + d, none⟩ ((c.toList.drop (sh + d)).take l.length) (fun j v hv => by
        rw [addr_add]
        unfold World.cell?
        simp only [hw2, h1]
        have hj : j < l.length := by
          have := (List.getElem?_eq_some_iff.1 hv).1
          simp at this; omega
        rw [List.getElem?_take, if_pos hj, List.getElem?_drop] at hv
        simpa using hv)
      rwa [show ((c.toList.drop (sh + d)).take l.length).length = l.length from by simp; omega] at this
theorem im_read (hH : HR ι H w) {l0 : List IV} {r sh d : Nat} {l : List IV} (h : ι.im (.c l0) r sh) (hw : l <+: l0.drop d) :
    ∃ l' : List Value, VRs ι l l' ∧ (loadCells ⟨r, sh + d, none⟩ l.length).run P w = .ok l'.toArray w := by
  obtain ⟨l', h1, h2⟩ := im_reads (P := P) hH h hw
  exact ⟨l', h1, h2 w rfl⟩

theorem read_inv {b : Pos} {o n : Nat} {l : List IV} (h : H.read b o n = some l) : ∃ m l0, H.cells b = some (m, l0) ∧ o + n ≤ m ∧ (n = m → l0.length = m → o = 0 → l = (l0.drop o).take n) ∧ (n ≠ m → l = (l0.drop o).take n) ∧ (n = m → l = l0) := by
  unfold Hp.read at h
  split at h
  · rename_i m l0 e
    cases c : Nat.ble (o + n) m with
    | false => rw [c] at h; cases h
    | true =>
      rw [c] at h
      have c' := Nat.le_of_ble_eq_true c
      refine ⟨m, l0, e, c', ?_⟩
      by_cases hn : n = m
      · subst hn
        rw [Nat.beq_refl] at h
        cases h
        refine ⟨fun _ hl ho => by subst ho; simp [← hl], fun hh => absurd rfl hh, fun _ => rfl⟩
      · rw [beq_no hn] at h
        cases h
        exact ⟨fun hh => absurd hh hn, fun _ => by rw [takeN_eq, dropN_eq]; rfl, fun hh => absurd hh hn⟩
  · cases h

/-- A run of cells, read. -/
theorem read_sound (hH : HR ι H w) {b : Pos} {o n : Nat} {l : List IV} {L : Loc} (h : H.read b o n = some l) (hL : ι b = some L) :
    ∃ l' : List Value, VRs ι l l' ∧ l.length = n ∧ (loadCells ⟨L.r, L.sh + o, none⟩ n).run P w = .ok l'.toArray w := by
  obtain ⟨m, l0, h1, h2, _, h4, h5⟩ := read_inv h
  obtain ⟨g1, g2, c, e, lo, hi, g3, g4, g5, g6⟩ := cells_br hH h1 hL
  have hl : l = (l0.drop o).take n := by
    by_cases hn : n = m
    · rw [h5 hn]
      have : o = 0 := by omega
      subst this
      simp [hn, ← g1]
    · exact h4 hn
  have hlen : l.length = n := by rw [hl]; simp; omega
  refine ⟨(c.toList.drop (L.sh + o)).take n, ?_, hlen, ?_⟩
  · refine VRs.of_get (by rw [hlen]; simp; omega) fun i v hv => ?_
    have hi : i < n := by
      rw [← hlen]; exact (List.getElem?_eq_some_iff.1 hv).1
    rw [hl] at hv
    have hv' : l0[o + i]? = some v := by
      simpa [List.getElem?_take, hi, List.getElem?_drop] using hv
    obtain ⟨v', f1, f2⟩ := g6 _ _ hv'
    refine ⟨v', ?_, f2⟩
    rw [List.getElem?_take, if_pos hi, List.getElem?_drop]
    rw [show L.sh + o + i = L.sh + (o + i) by omega]
    simpa using f1
  · have := run_loadCells_list (P := P) w ⟨L.r, L.sh + o, none⟩ ((c.toList.drop (L.sh + o)).take n) (fun j v hv => by
      rw [addr_add]
      unfold World.cell?
      simp only [g3]
      have hj : j < n := by
        have := (List.getElem?_eq_some_iff.1 hv).1
        simp at this; omega
      rw [List.getElem?_take, if_pos hj, List.getElem?_drop] at hv
      simpa using hv)
    rwa [show ((c.toList.drop (L.sh + o)).take n).length = n from by simp; omega] at this

theorem read1_sound (hH : HR ι H w) {b : Pos} {o : Nat} {v : IV} {L : Loc} (h : H.read1 b o = some v) (hL : ι b = some L) :
    ∃ v', VR ι v v' ∧ w.cell? ⟨L.r, L.sh + o, none⟩ = some v' := by
  unfold Hp.read1 at h
  split at h
  · rename_i m l0 e
    obtain ⟨g1, g2, c, e, lo, hi, g3, g4, g5, g6⟩ := cells_br hH e hL
    rw [nth_eq] at h
    obtain ⟨v', f1, f2⟩ := g6 _ _ h
    exact ⟨v', f2, by unfold World.cell?; simp only [g3]; simpa using f1⟩
  · cases h
end
end Go.Fg
/- The ideal machine: the operations that only read, one by one. -/
namespace Go.Fg

section
variable {P : Program} {ι : Emb} {τ : Fm} {a : Act} {H : Hp} {w : World}

theorem info_of_sz {t : TypeId} {n : Nat} (h : sz P t = some n) : ∃ i, P.info? t = some i ∧ i.size = n := by
  unfold sz at h; split at h
  · rename_i i e; cases h; exact ⟨i, e, rfl⟩
  · cases h
theorem run_sz {t : TypeId} {n : Nat} (h : sz P t = some n) : (sizeOf t).run P w = .ok n w := by
  obtain ⟨i, hi, rfl⟩ := info_of_sz h
  simp [sizeOf, typeInfo, hi]
theorem isAgg_true {t : TypeId} (h : isAggT P t = true) : (isAgg t).run P w = .ok true w := by
  unfold isAggT at h
  split at h
  · rename_i fs e; simp [isAgg, run_underlying e]
  · rename_i n u e; simp [isAgg, run_underlying e]
  · cases h
theorem isAgg_false {t : TypeId} {d : TypeDesc} (h : isAggT P t = false) (hd : P.underlying t = some d) : (isAgg t).run P w = .ok false w := by
  unfold isAggT at h
  rw [hd] at h
  cases d <;> simp_all [isAgg, run_underlying hd]

theorem vr_cells {x : IV} {y : Value} (h : VR ι x y) : VRs ι x.cells y.cells.toList := by
  cases h <;> first
    | (rename_i l l' hl; exact hl)
    | (refine .cons _ _ _ _ ?_ .nil; constructor <;> assumption)

theorem zeroI_sound {t : TypeId} {z : IV} (h : zeroI P t = some z) : ∃ i v, P.info? t = some i ∧ i.zero = some v ∧ VR ι z v := by
  unfold zeroI at h; split at h
  · rename_i i e
    split at h
    · rename_i v ev; exact ⟨i, v, e, ev, ofVal_sound _ h⟩
    · cases h
  · cases h
theorem run_zero {t : TypeId} {i : TypeInfo} {v : Value} (h : P.info? t = some i) (hz : i.zero = some v) : (zeroValue t).run P w = .ok v w := by
  simp [zeroValue, typeInfo, h, hz]

theorem run_asBool (b : Bool) : (asBool (.bool b)).run P w = .ok b w := by simp [asBool]

/-- A field's cells. -/
theorem part_agg {t : TypeId} {n : Nat} {cs : Array Value} {off : Nat} (h : isAggT P t = true) (hn : sz P t = some n) : (part t cs off).run P w = .ok (.agg (cs.extract off (off + n))) w := by
  simp [part, isAgg_true h, run_sz hn]
theorem part_one {t : TypeId} {d : TypeDesc} {cs : Array Value} {off : Nat} {v : Value} (h : isAggT P t = false) (hd : P.underlying t = some d) (hv : cs[off]? = some v) : (part t cs off).run P w = .ok v w := by
  simp [part, isAgg_false h hd, hv]

theorem takeCells_sound {l : List IV} {l' : Array Value} {o n : Nat} {c : List IV} (h : takeCells l o n = some c) (hl : VRs ι l l'.toList) : VRs ι c (l'.extract o (o + n)).toList := by
  unfold takeCells at h
  cases e : Nat.ble (o + n) (lenN l) with
  | false => rw [e] at h; cases h
  | true =>
    rw [e] at h
    cases h
    rw [takeN_eq, dropN_eq]
    have := VRs.take n (VRs.drop o hl)
    rw [Array.toList_extract]
    rwa [List.extract_eq_take_drop, show o + n - o = n by omega]

/-! ### fill -/
theorem foldl_lay (off : Nat) : ∀ (vs : List Value) (cs : Array Value), off + vs.length ≤ cs.size →
    ∀ i : Nat, ((vs.zipIdx 0).foldl (fun (cs : Array Value) (x : Value × Nat) => cs.setIfInBounds (off + x.2) x.1) cs)[i]? = if off ≤ i ∧ i < off + vs.length then vs[i - off]? else cs[i]? := by
  have key : ∀ (vs : List Value) (k : Nat) (cs : Array Value), off + k + vs.length ≤ cs.size →
      ∀ i : Nat, ((vs.zipIdx k).foldl (fun (cs : Array Value) (x : Value × Nat) => cs.setIfInBounds (off + x.2) x.1) cs)[i]? = if off + k ≤ i ∧ i < off + k + vs.length then vs[i - (off + k)]? else cs[i]? := by
    intro vs
    induction vs with
    | nil => intro k cs h i; simp; omega
    | cons v vs ih =>
      intro k cs h i
      simp only [List.zipIdx_cons, List.foldl_cons, List.length_cons] at h ⊢
      rw [ih (k + 1) _ (by simp; omega) i]
      by_cases c1 : i = off + k
      · subst c1
        rw [if_neg (by omega), if_pos (by omega)]
        have hlt : off + k < cs.size := by omega
        simp [hlt]
      · by_cases c2 : off + (k + 1) ≤ i ∧ i < off + (k + 1) + vs.length
        · rw [if_pos c2, if_pos (by omega), show i - (off + k) = (i - (off + (k + 1))) + 1 by omega]
          simp
        · rw [if_neg c2, if_neg (by omega), Array.getElem?_setIfInBounds_ne (by omega)]
  intro vs cs h i
  simpa using key vs 0 cs (by omega) i

theorem fill_sound (place : Nat → Option (Nat × Nat)) : ∀ (parts : List (Nat × Value)) (ps : List (Nat × Nat)) (xs : List IV) (z r : List IV) (z' : Array Value),
    fillI ps xs z = some r → VRs ι xs (parts.map (·.2)) → VRs ι z z'.toList → ps.length = parts.length → (∀ (i : Nat) (p : Nat × Nat) (q : Nat × Value), ps[i]? = some p → parts[i]? = some q → place q.1 = some p) → fits z.length ps = true →
    ∃ r', Instr.fill place z' parts = some r' ∧ VRs ι r r'.toList
  | [], ps, xs, z, r, z', h, hx, hz, hl, hp, hf => by
    cases ps with
    | cons _ _ => simp at hl
    | nil =>
      cases hx
      cases h
      exact ⟨z', rfl, hz⟩
  | (j, v) :: parts, ps, xs, z, r, z', h, hx, hz, hl, hp, hf => by
    cases ps with
    | nil => simp at hl
    | cons p ps =>
      cases hx
      rename_i x xs' hv ht
      have h0 := hp 0 p (j, v) (by simp) (by simp)
      simp only [fits, Bool.and_eq_true] at hf
      have hf1 := Nat.le_of_ble_eq_true hf.1
      have hh : cond (Nat.beq (lenN x.cells) p.2) (fillI ps xs' (layAt p.1 x.cells z)) none = some r := h
      cases e : Nat.beq (lenN x.cells) p.2 with
      | false => rw [e] at hh; cases hh
      | true =>
        rw [e] at hh
        have e' := Nat.eq_of_beq_eq_true e
        rw [lenN_eq] at e'
        have hc := vr_cells hv
        have hsz : v.cells.size = p.2 := by rw [← e', ← hc.length]; simp
        have hzl : z'.size = z.length := by rw [← hz.length]; simp
        have hlay : VRs ι (layAt p.1 x.cells z) ((v.cells.toList.zipIdx 0).foldl (fun (cs : Array Value) (y : Value × Nat) => cs.setIfInBounds (p.1 + y.2) y.1) z').toList := by
          have hlen : ((v.cells.toList.zipIdx 0).foldl (fun (cs : Array Value) (y : Value × Nat) => cs.setIfInBounds (p.1 + y.2) y.1) z').size = z'.size := by
            generalize v.cells.toList.zipIdx 0 = l
            generalize z' = q
            induction l generalizing q with
            | nil => rfl
            | cons a l ih => simp only [List.foldl_cons]; rw [ih]; simp
          refine VRs.of_get (by rw [length_layAt]; simp [hlen, hzl]) fun i u hu => ?_
          rw [get_layAt _ _ _ _ (by omega)] at hu
          have := foldl_lay p.1 v.cells.toList z' (by simp; omega) i
          rw [Array.getElem?_toList, this]
          have hle : v.cells.toList.length = x.cells.length := hc.length
          rw [hle]
          by_cases c : p.1 ≤ i ∧ i < p.1 + x.cells.length
          · rw [if_pos c] at hu ⊢; exact hc.get hu
          · rw [if_neg c] at hu ⊢
            obtain ⟨u', f1, f2⟩ := hz.get hu
            exact ⟨u', by simpa using f1, f2⟩
        obtain ⟨r', g1, g2⟩ := fill_sound place parts ps xs' _ r _ hh ht hlay (by simpa using hl) (fun i p' q h1 h2 => hp (i + 1) p' q (by simpa using h1) (by simpa using h2)) (by rw [length_layAt]; exact hf.2)
        refine ⟨r', ?_, g2⟩
        unfold Instr.fill
        simp only [h0]
        rw [if_neg (by simp [hsz, hzl]; omega)]
        rw [← Array.foldl_toList, Array.toList_zipIdx]
        exact g1

/-! ### Equality of flat values -/
end
end Go.Fg
/- The ideal machine: equality of structs of numbers, bools and strings. -/
namespace Go.Fg

theorem eqCells_nil : eqCells [] [] [] = some true := rfl
theorem eqCells_cons (k : Nat) (ks : List Nat) (a b : IV) (x y : List IV) : eqCells (k :: ks) (a :: x) (b :: y) = andO (eqCell k a b) (eqCells ks x y) := rfl
theorem andO_some {x y : Option Bool} {r : Bool} (h : andO x y = some r) : ∃ p q, x = some p ∧ y = some q ∧ r = (p && q) := by
  unfold andO at h
  split at h
  · exact ⟨true, r, rfl, h, by simp⟩
  · split at h
    · rename_i q; cases h; exact ⟨false, q, rfl, rfl, by simp⟩
    · cases h
  · cases h

theorem eqCells_length : ∀ {ks : List Nat} {l m : List IV} {r : Bool}, eqCells ks l m = some r → l.length = ks.length ∧ m.length = ks.length
  | [], [], [], _, _ => ⟨rfl, rfl⟩
  | [], [], _ :: _, _, h => by cases h
  | [], _ :: _, _, _, h => by cases h
  | _ :: _, [], _, _, h => by cases h
  | _ :: _, _ :: _, [], _, h => by cases h
  | k :: ks, a :: l, b :: m, r, h => by
    obtain ⟨p, q, h1, h2, h3⟩ := andO_some (show andO (eqCell k a b) (eqCells ks l m) = some r from h)
    have := eqCells_length h2
    simp [this]

theorem eqCells_append : ∀ {ks ks₂ : List Nat} {l m : List IV} {r : Bool}, eqCells (ks ++ ks₂) l m = some r →
    ∃ p q, eqCells ks (l.take ks.length) (m.take ks.length) = some p ∧ eqCells ks₂ (l.drop ks.length) (m.drop ks.length) = some q ∧ r = (p && q)
  | [], _, l, m, r, h => ⟨true, r, by simp; rfl, by simpa using h, by simp⟩
  | k :: ks, ks₂, [], m, r, h => by cases h
  | k :: ks, ks₂, _ :: _, [], r, h => by cases h
  | k :: ks, ks₂, a :: l, b :: m, r, h => by
    obtain ⟨p, q, h1, h2, h3⟩ := andO_some (show andO (eqCell k a b) (eqCells (ks ++ ks₂) l m) = some r from h)
    obtain ⟨p', q', g1, g2, g3⟩ := eqCells_append h2
    refine ⟨p && p', q', ?_, g2, by rw [h3, g3, Bool.and_assoc]⟩
    show andO (eqCell k a b) (eqCells ks (l.take ks.length) (m.take ks.length)) = _
    rw [h1, g1]
    cases p <;> rfl

theorem bytes_beq {a b : ByteArray} : (a.data.toList.map UInt8.toNat == b.data.toList.map UInt8.toNat) = (a.toList == b.toList) := by
  rw [ByteArray.toList_eq, ByteArray.toList_eq]
  generalize a.data.toList = x
  generalize b.data.toList = y
  induction x generalizing y with
  | nil => cases y <;> rfl
  | cons u x ih =>
    cases y with
    | nil => rfl
    | cons v y =>
      have e : (u.toNat == v.toNat) = (u == v) := by
        by_cases h : u = v
        · subst h; rw [beq_self_eq_true, beq_self_eq_true]
        · have h' : u.toNat ≠ v.toNat := fun e => h (UInt8.toNat_inj.1 e)
          rw [beq_eq_false_iff_ne.2 h, beq_eq_false_iff_ne.2 h']
      show (u.toNat == v.toNat && (x.map UInt8.toNat == y.map UInt8.toNat)) = (u == v && (x == y))
      rw [e, ih]

section
variable {P : Program} {ι : Emb}

theorem eqCell_sound {kd : Nat} {x y : IV} {x' y' : Value} {r : Bool} (h : eqCell kd x y = some r) (hx : VR ι x x') (hy : VR ι y y') :
    (kd = 0 ∧ ∃ k a b, x' = .int k a ∧ y' = .int k b ∧ r = (a == b)) ∨ (kd = 1 ∧ ∃ a b, x' = .bool a ∧ y' = .bool b ∧ r = (a == b)) ∨ (kd = 2 ∧ ∃ a b, x' = .string a ∧ y' = .string b ∧ r = (a.toList == b.toList)) := by
  unfold eqCell at h
  split at h
  · rename_i k a j b
    cases e0 : Nat.beq kd 0 with
    | false => rw [e0] at h; cases h
    | true =>
      rw [e0] at h
      cases e : kEq k j with
      | false => rw [e] at h; cases h
      | true =>
        rw [e] at h
        have := (kEq_iff k j).1 e
        subst this
        cases h
        exact .inl ⟨Nat.eq_of_beq_eq_true e0, k, a, b, vr_i hx, vr_i hy, ieq_eq a b⟩
  · rename_i a b
    cases e0 : Nat.beq kd 1 with
    | false => rw [e0] at h; cases h
    | true => rw [e0] at h; cases h; exact .inr (.inl ⟨Nat.eq_of_beq_eq_true e0, a, b, vr_b hx, vr_b hy, rfl⟩)
  · rename_i a b
    cases e0 : Nat.beq kd 2 with
    | false => rw [e0] at h; cases h
    | true =>
      rw [e0] at h; cases h
      obtain ⟨u, hu, rfl⟩ := vr_s hx
      obtain ⟨v, hv, rfl⟩ := vr_s hy
      refine .inr (.inr ⟨Nat.eq_of_beq_eq_true e0, u, v, rfl, rfl, ?_⟩)
      rw [seq_eq, ← hu, ← hv, bytes_beq]
  · cases h

/-- What stands at a type: an aggregate, or its one cell. -/
def formed (P : Program) (t : TypeId) (cs : Array Value) (v : Value) : Prop := if isAggT P t = true then v = .agg cs else cs = #[v]

theorem extract_one {cs : Array Value} {off : Nat} (h : off < cs.size) : cs.extract off (off + 1) = #[cs[off]] := by
  apply Array.ext
  · simp; omega
  · intro i h1 h2
    simp at h1 h2
    have : i = 0 := by omega
    subst this
    simp

theorem part_formed {t : TypeId} {n : Nat} {cs : Array Value} {off : Nat} (w : World) {d : TypeDesc} (hd : P.underlying t = some d) (hn : sz P t = some n) (hsz : off + n ≤ cs.size) (h1 : isAggT P t = false → n = 1) :
    ∃ v, (part t cs off).run P w = .ok v w ∧ formed P t (cs.extract off (off + n)) v := by
  cases e : isAggT P t with
  | true => exact ⟨_, part_agg e hn, by unfold formed; rw [if_pos e]⟩
  | false =>
    have := h1 e; subst this
    have hlt : off < cs.size := by omega
    refine ⟨cs[off], part_one e hd (by simp [hlt]), ?_⟩
    unfold formed
    rw [if_neg (by simp [e]), extract_one hlt]

/-- What 'kinds' tells of a type. -/
theorem kinds_facts : ∀ (n : Nat) (t : TypeId) (ks : List Nat), kinds P n t = some ks → (∃ d, P.underlying t = some d) ∧ sz P t = some ks.length ∧ (isAggT P t = false → ks.length = 1)
  | 0, _, _, h => by cases h
  | n + 1, t, ks, h => by
    unfold kinds at h
    have one : ∀ c, (if (sz P t == some 1) = true then some [c] else none) = some ks → sz P t = some ks.length ∧ (isAggT P t = false → ks.length = 1) := by
      intro c hc
      split at hc
      · rename_i e; cases hc; exact ⟨by simpa using e, fun _ => rfl⟩
      · cases hc
    split at h
    · rename_i k e; exact ⟨⟨_, e⟩, one _ h⟩
    · rename_i e; exact ⟨⟨_, e⟩, one _ h⟩
    · rename_i e; exact ⟨⟨_, e⟩, one _ h⟩
    · rename_i fs e
      refine ⟨⟨_, e⟩, ?_, fun ha => by unfold isAggT at ha; rw [e] at ha; cases ha⟩
      split at h
      · split at h
        · split at h
          · rename_i hs; cases h; simpa using hs
          · cases h
        · cases h
      · cases h
    · cases h

def EqFor (P : Program) (d : Nat) (t : TypeId) (ks : List Nat) : Prop :=
  ∀ (w : World) (ι : Emb) (l m : List IV) (xs ys : Array Value) (x y : Value) (r : Bool),
    sz P t = some ks.length → VRs ι l xs.toList → VRs ι m ys.toList → formed P t xs x → formed P t ys y → eqCells ks l m = some r → (Op.equalIn d t x y).run P w = .ok r w

theorem eqFields_sound (d : Nat) (g : TypeId → Option (List Nat)) (xs ys : Array Value) {ι : Emb} (hg : ∀ t ks, g t = some ks → EqFor P d t ks) (hk : ∀ t ks, g t = some ks → (∃ d, P.underlying t = some d) ∧ sz P t = some ks.length ∧ (isAggT P t = false → ks.length = 1)) (w : World) :
    ∀ (fs : List Field) (o : Nat) (ks : List Nat) (l m : List IV) (r : Bool), kinds1 g fs = some ks → contig P o fs = true → o ≤ xs.size → o ≤ ys.size → VRs ι l (xs.toList.drop o) → VRs ι m (ys.toList.drop o) → eqCells ks l m = some r →
      (Op.eqFields d xs ys fs).run P w = .ok r w
  | [], o, ks, l, m, r, hks, hc, hox, hoy, hl, hm, he => by
    cases hks
    have : r = true := by
      obtain ⟨h1, h2⟩ := eqCells_length he
      cases l with
      | nil => cases m with
        | nil => cases he; rfl
        | cons _ _ => simp at h2
      | cons _ _ => simp at h1
    subst this
    simp [Op.eqFields]
  | f :: fs, o, ks, l, m, r, hks, hc, hox, hoy, hl, hm, he => by
    unfold kinds1 at hks
    split at hks
    · rename_i k1 k2 e1 e2
      split at hks
      · rename_i hn
        cases hks
        unfold contig at hc
        split at hc
        · rename_i n hsz
          simp only [Bool.and_eq_true] at hc
          obtain ⟨hc1, hc2⟩ := hc
          have hoff := Nat.eq_of_beq_eq_true hc1
          have hlen := (hk _ _ e1).2.1
          rw [hsz] at hlen
          cases hlen
          obtain ⟨p, q, a1, a2, a3⟩ := eqCells_append he
          obtain ⟨la, lb⟩ := eqCells_length he
          have hxs : o + k1.length ≤ xs.size := by have := hl.length; rw [la, List.length_append, List.length_drop, Array.length_toList] at this; omega
          have hys : o + k1.length ≤ ys.size := by have := hm.length; rw [lb, List.length_append, List.length_drop, Array.length_toList] at this; omega
          obtain ⟨⟨dd, hd⟩, _, hone⟩ := hk _ _ e1
          obtain ⟨u, u1, u2⟩ := part_formed w hd hsz hxs hone
          obtain ⟨v, v1, v2⟩ := part_formed w hd hsz hys hone
          have tk : ∀ (z : Array Value) (q : List IV), VRs ι q (z.toList.drop o) → VRs ι (q.take k1.length) (z.extract o (o + k1.length)).toList := by
            intro z q hq
            have := VRs.take k1.length hq
            rw [Array.toList_extract, List.extract_eq_take_drop, show o + k1.length - o = k1.length by omega]
            exact this
          have hq := hg _ _ e1 w ι _ _ _ _ _ _ _ hsz (tk xs l hl) (tk ys m hm) u2 v2 a1
          have hn' : f.name ≠ "_" := by simpa using hn
          have dr : ∀ (z : Array Value) (q : List IV), VRs ι q (z.toList.drop o) → VRs ι (q.drop k1.length) (z.toList.drop (o + k1.length)) := by
            intro z q hq
            have := VRs.drop k1.length hq
            rwa [List.drop_drop] at this
          have ih := eqFields_sound d g xs ys hg hk w fs (o + k1.length) k2 _ _ q e2 hc2 hxs hys (dr xs l hl) (dr ys m hm) a2
          simp only [Op.eqFields, hn', ne_eq, not_false_eq_true, if_true, Sem.run_bind, hoff, u1, v1, hq, Result.andThen_ok, Sem.run_ite]
          cases p
          · simp [a3]
          · simpa [a3] using ih
        · cases hc
      · cases hks
    · cases hks

theorem kinds_sound (d : Nat) : ∀ (n : Nat) (t : TypeId) (ks : List Nat), kinds P n t = some ks → EqFor P (d + n) t ks
  | 0, _, _, h => by cases h
  | n + 1, t, ks, h => by
    intro w ι l m xs ys x y r hsz hl hm hx hy he
    have leaf : isAggT P t = false → ks.length = 1 → ∃ kd u v, ks = [kd] ∧ VR ι u x ∧ VR ι v y ∧ eqCell kd u v = some r := by
      intro ha h1
      obtain ⟨kd, rfl⟩ := List.length_eq_one_iff.1 h1
      obtain ⟨la, lb⟩ := eqCells_length he
      obtain ⟨u, rfl⟩ := List.length_eq_one_iff.1 la
      obtain ⟨v, rfl⟩ := List.length_eq_one_iff.1 lb
      unfold formed at hx hy
      rw [if_neg (by simp [ha])] at hx hy
      subst hx hy
      obtain ⟨_, e1, g1⟩ := vrs1 hl
      obtain ⟨_, e2, g2⟩ := vrs1 hm
      cases e1; cases e2
      obtain ⟨p, q, a1, a2, a3⟩ := andO_some (show andO (eqCell kd u v) (eqCells [] [] []) = some r from he)
      cases a2
      exact ⟨kd, u, v, rfl, g1, g2, by simpa [a3] using a1⟩
    have h0 := h
    unfold kinds at h
    split at h
    · rename_i kk e
      split at h
      · cases h
        obtain ⟨kd, u, v, hkd, g1, g2, g3⟩ := leaf (by unfold isAggT; rw [e]) rfl
        cases hkd
        rcases eqCell_sound g3 g1 g2 with ⟨_, k, a, b, rfl, rfl, rfl⟩ | ⟨c, _⟩ | ⟨c, _⟩
        · exact run_equalIn_int w (d + n) t _ _ a b e
        · cases c
        · cases c
      · cases h
    · rename_i e
      split at h
      · cases h
        obtain ⟨kd, u, v, hkd, g1, g2, g3⟩ := leaf (by unfold isAggT; rw [e]) rfl
        cases hkd
        rcases eqCell_sound g3 g1 g2 with ⟨c, _⟩ | ⟨_, a, b, rfl, rfl, rfl⟩ | ⟨c, _⟩
        · cases c
        · exact run_equalIn_bool' w (d + n) t a b e
        · cases c
      · cases h
    · rename_i e
      split at h
      · cases h
        obtain ⟨kd, u, v, hkd, g1, g2, g3⟩ := leaf (by unfold isAggT; rw [e]) rfl
        cases hkd
        rcases eqCell_sound g3 g1 g2 with ⟨c, _⟩ | ⟨c, _⟩ | ⟨_, a, b, rfl, rfl, rfl⟩
        · cases c
        · cases c
        · exact run_equalIn_string w (d + n) t a b e
      · cases h
    · rename_i fs e
      split at h
      · rename_i hc
        split at h
        · rename_i ks' hk1
          split at h
          · cases h
            simp only [Bool.and_eq_true, Bool.not_eq_true'] at hc
            have ha : isAggT P t = true := by unfold isAggT; rw [e]
            unfold formed at hx hy
            rw [if_pos ha] at hx hy
            subst hx hy
            have hf : P.fieldsOf t = fs := by unfold Program.fieldsOf; rw [e]
            rw [show d + (n + 1) = (d + n) + 1 by omega, run_equalIn_struct w (d + n) t xs ys (by rw [hf]; exact e) hc.1, hf]
            exact eqFields_sound (d + n) (kinds P n) xs ys (fun t ks h => kinds_sound d n t ks h) (fun t ks h => kinds_facts n t ks h) w fs.toList 0 ks l m r hk1 hc.2 (Nat.zero_le _) (Nat.zero_le _) (by simpa using hl) (by simpa using hm) he
          · cases h
        · cases h
      · cases h
    · cases h
end
end Go.Fg
/- The ideal machine: maps' keys. -/
namespace Go.Fg

section
variable {P : Program} {ι : Emb}

theorem keyT_facts {t : TypeId} {ag : Bool} {ks : List Nat} (h : keyT P t = some (ag, ks)) : kinds P 8 t = some ks ∧ ag = isAggT P t := by
  unfold keyT at h
  split at h
  · rename_i k e; cases h; exact ⟨e, rfl⟩
  · cases h

/-- Two keys. -/
theorem eqKey_inv {ag : Bool} {ks : List Nat} {x y : IV} {x' y' : Value} {r : Bool} (h : eqKey ag ks x y = some r) (hx : VR ι x x') (hy : VR ι y y') :
    (ag = true ∧ ∃ l m xs ys, VRs ι l xs.toList ∧ VRs ι m ys.toList ∧ x' = .agg xs ∧ y' = .agg ys ∧ eqCells ks l m = some r) ∨ (ag = false ∧ eqCells ks [x] [y] = some r ∧ ∃ kd, ks = [kd] ∧ eqCell kd x y = some r) := by
  unfold eqKey at h
  split at h
  · rename_i l m
    cases ag with
    | false => cases h
    | true =>
      obtain ⟨xs, h1, rfl⟩ := vr_agg hx
      obtain ⟨ys, h2, rfl⟩ := vr_agg hy
      exact .inl ⟨rfl, l, m, xs, ys, h1, h2, rfl, rfl, h⟩
  · cases ag with
    | true => cases h
    | false =>
      have h' : eqCells ks [x] [y] = some r := h
      obtain ⟨la, lb⟩ := eqCells_length h'
      obtain ⟨kd, rfl⟩ := List.length_eq_one_iff.1 la.symm
      obtain ⟨p, q, a1, a2, a3⟩ := andO_some (show andO (eqCell kd x y) (eqCells [] [] []) = some r from h')
      cases a2
      exact .inr ⟨rfl, h', kd, rfl, by simpa [a3] using a1⟩

theorem findI_nil (ag : Bool) (ks : List Nat) (k : IV) (n : Nat) : findI ag ks k [] n = some none := rfl
theorem findI_cons (ag : Bool) (ks : List Nat) (k : IV) (e : IEnt) (es : List IEnt) (n : Nat) : findI ag ks k (e :: es) n = match eqKey ag ks k e.key with
    | some b => if b then some (some (n, e)) else findI ag ks k es (n + 1)
    | none => none := by
  show @Option.casesOn Bool (fun _ => Option (Option (Nat × IEnt))) (eqKey ag ks k e.key) none (fun b => cond b (some (some (n, e))) (findI ag ks k es (n + 1))) = _
  cases eqKey ag ks k e.key with
  | none => rfl
  | some b => cases b <;> rfl

/-- What was found, in the model. -/
def Found (ι : Emb) (es : List IEnt) (es' : List MapEntry) (n : Nat) : Option (Nat × IEnt) → Option (Nat × Value) → Prop
  | none, none => True
  | some (i, e), some (i', v') => i' = i ∧ n ≤ i ∧ es[i - n]? = some e ∧ ∃ e', es'[i - n]? = some e' ∧ e'.val = v' ∧ VR ι e.val v' ∧ e'.born = e.born ∧ VR ι e.key e'.key
  | _, _ => False

theorem Found.shift {es : List IEnt} {es' : List MapEntry} {e : IEnt} {e' : MapEntry} {n : Nat} {r : Option (Nat × IEnt)} {r' : Option (Nat × Value)} (h : Found ι es es' (n + 1) r r') : Found ι (e :: es) (e' :: es') n r r' := by
  cases r with
  | none => cases r' with
    | none => trivial
    | some x => cases h
  | some x => cases r' with
    | none => cases h
    | some y =>
      obtain ⟨i, f⟩ := x
      obtain ⟨i', v'⟩ := y
      obtain ⟨h1, h2, h3, e2, h4, h5⟩ := h
      refine ⟨h1, by omega, ?_, e2, ?_, h5⟩
      · rw [show i - n = (i - (n + 1)) + 1 by omega]; simpa using h3
      · rw [show i - n = (i - (n + 1)) + 1 by omega]; simpa using h4

theorem sameNow_of {t : TypeId} {d : TypeDesc} {kd : Nat} {x y : IV} {x' y' : Value} {r : Bool} (hk : kinds P 8 t = some [kd]) (hd : P.underlying t = some d) (ha : isAggT P t = false)
    (h : eqCell kd x y = some r) (hx : VR ι x x') (hy : VR ι y y') : Instr.sameNow d x' y' = some r := by
  unfold kinds at hk
  rw [hd] at hk
  have tok : ∀ c, (if (sz P t == some 1) = true then some [c] else none) = some [kd] → c = kd := by
    intro c hc; split at hc
    · cases hc; rfl
    · cases hc
  rcases eqCell_sound h hx hy with ⟨c, k, a, b, rfl, rfl, rfl⟩ | ⟨c, a, b, rfl, rfl, rfl⟩ | ⟨c, a, b, rfl, rfl, rfl⟩
  · cases d <;> first
      | (simp [Instr.sameNow, beq_toListBytes]; done)
      | (exfalso; have := tok _ hk; omega)
      | (exfalso; cases hk; done)
      | (exfalso; unfold isAggT at ha; rw [hd] at ha; cases ha; done)
  · cases d <;> first
      | (simp [Instr.sameNow, beq_toListBytes]; done)
      | (exfalso; have := tok _ hk; omega)
      | (exfalso; cases hk; done)
      | (exfalso; unfold isAggT at ha; rw [hd] at ha; cases ha; done)
  · cases d <;> first
      | (simp [Instr.sameNow, beq_toListBytes]; done)
      | (exfalso; have := tok _ hk; omega)
      | (exfalso; cases hk; done)
      | (exfalso; unfold isAggT at ha; rw [hd] at ha; cases ha; done)

theorem findNow_sound {t : TypeId} {d : TypeDesc} {ks : List Nat} (hk : kinds P 8 t = some ks) (hd : P.underlying t = some d) (ha : isAggT P t = false) {k : IV} {k' : Value} (hkv : VR ι k k') :
    ∀ (es : List IEnt) (es' : List MapEntry) (n : Nat) (res : Option (Nat × IEnt)), ERs ι es es' → findI false ks k es n = some res → ∃ res', Instr.findNow d k' es' n = some res' ∧ Found ι es es' n res res'
  | [], es', n, res, hes, h => by
    cases hes; cases h
    exact ⟨none, rfl, trivial⟩
  | e :: es, es', n, res, hes, h => by
    cases hes
    rename_i e' es' hk1 hv1 hb1 ht
    rw [findI_cons] at h
    cases hq : eqKey false ks k e.key with
    | none => rw [hq] at h; cases h
    | some b =>
      rw [hq] at h
      rcases eqKey_inv hq hkv hk1 with ⟨c, _⟩ | ⟨_, _, kd, rfl, hc⟩
      · cases c
      have hs := sameNow_of hk hd ha hc hkv hk1
      cases b with
      | true =>
        simp at h
        subst h
        refine ⟨some (n, e'.val), by simp [Instr.findNow, hs], rfl, Nat.le_refl _, by simp, e', by simp, rfl, hv1, hb1.symm, hk1⟩
      | false =>
        simp at h
        obtain ⟨res', g1, g2⟩ := findNow_sound hk hd ha hkv es es' (n + 1) res ht h
        exact ⟨res', by simpa [Instr.findNow, hs] using g1, g2.shift⟩

theorem findAsking_sound {t : TypeId} {ks : List Nat} (w : World) (hk : kinds P 8 t = some ks) (ha : isAggT P t = true) {k : IV} {k' : Value} (hkv : VR ι k k') :
    ∀ (es : List IEnt) (es' : List MapEntry) (n : Nat) (res : Option (Nat × IEnt)), ERs ι es es' → findI true ks k es n = some res → ∃ res', (Instr.findAsking t k' es' n).run P w = .ok res' w ∧ Found ι es es' n res res'
  | [], es', n, res, hes, h => by
    cases hes; cases h
    exact ⟨none, by simp [Instr.findAsking], trivial⟩
  | e :: es, es', n, res, hes, h => by
    cases hes
    rename_i e' es' hk1 hv1 hb1 ht
    rw [findI_cons] at h
    cases hq : eqKey true ks k e.key with
    | none => rw [hq] at h; cases h
    | some b =>
      rw [hq] at h
      rcases eqKey_inv hq hkv hk1 with ⟨_, l, m, xs, ys, h1, h2, h3, h4, h5⟩ | ⟨c, _⟩
      case inr => cases c
      have hs : (Op.equal t k' e'.key).run P w = .ok b w := by
        have := kinds_sound (P := P) 9992 8 t ks hk w ι l m xs ys k' e'.key b (kinds_facts 8 t ks hk).2.1 h1 h2 (by unfold formed; rw [if_pos ha]; exact h3) (by unfold formed; rw [if_pos ha]; exact h4) h5
        exact this
      cases b with
      | true =>
        simp at h
        subst h
        refine ⟨some (n, e'.val), by simp [Instr.findAsking, hs], rfl, Nat.le_refl _, by simp, e', by simp, rfl, hv1, hb1.symm, hk1⟩
      | false =>
        simp at h
        obtain ⟨res', g1, g2⟩ := findAsking_sound w hk ha hkv es es' (n + 1) res ht h
        exact ⟨res', by simpa [Instr.findAsking, hs] using g1, g2.shift⟩

theorem findKey_sound {t : TypeId} {ag : Bool} {ks : List Nat} (w : World) (hkt : keyT P t = some (ag, ks)) {k : IV} {k' : Value} (hkv : VR ι k k')
    {es : List IEnt} {es' : List MapEntry} {res : Option (Nat × IEnt)} (hes : ERs ι es es') (h : findI ag ks k es 0 = some res) : ∃ res', (Instr.findKey t k' es').run P w = .ok res' w ∧ Found ι es es' 0 res res' := by
  obtain ⟨hk, rfl⟩ := keyT_facts hkt
  obtain ⟨⟨d, hd⟩, _, _⟩ := kinds_facts 8 t ks hk
  cases ha : isAggT P t with
  | false =>
    rw [ha] at h
    obtain ⟨res', g1, g2⟩ := findNow_sound hk hd ha hkv es es' 0 res hes h
    exact ⟨res', by simp [Instr.findKey, run_underlying hd, g1], g2⟩
  | true =>
    rw [ha] at h
    obtain ⟨res', g1, g2⟩ := findAsking_sound w hk ha hkv es es' 0 res hes h
    cases hes with
    | nil =>
      cases h
      exact ⟨none, by simp [Instr.findKey, run_underlying hd, Instr.findNow], trivial⟩
    | cons e e' es es' hk1 hv1 hb1 ht =>
      have hn : Instr.findNow d k' (e' :: es') 0 = none := by
        have : Instr.sameNow d k' e'.key = none := by
          rcases kinds_struct hk ha hd with ⟨fs, rfl⟩
          rfl
        simp [Instr.findNow, this]
      exact ⟨res', by simpa [Instr.findKey, run_underlying hd, hn] using g1, g2⟩ where
  kinds_struct {t : TypeId} {ks : List Nat} {d : TypeDesc} (hk : kinds P 8 t = some ks) (ha : isAggT P t = true) (hd : P.underlying t = some d) : ∃ fs, d = .struct fs := by
    unfold kinds at hk
    unfold isAggT at ha
    rw [hd] at hk ha
    cases d <;> simp at ha hk
    exact ⟨_, rfl⟩

theorem checkKey_plain (b : Bool) (m : Nat) {t : TypeId} {d : TypeDesc} (hd : P.underlying t = some d) (ha : isAggT P t = false) (hi : ∀ ms, d ≠ .interface ms) (v : Value) (w : World) : (Instr.checkKey b (m + 1) t v).run P w = .ok () w := by
  unfold isAggT at ha
  rw [hd] at ha
  cases d <;> simp [Instr.checkKey, run_underlying hd] at ha hi ⊢

theorem kinds_noIface {n : Nat} {t : TypeId} {ks : List Nat} {d : TypeDesc} (hk : kinds P n t = some ks) (hd : P.underlying t = some d) : ∀ ms, d ≠ .interface ms := by
  intro ms e
  subst e
  cases n with
  | zero => cases hk
  | succ n => unfold kinds at hk; rw [hd] at hk; cases hk

/-- A key that is asked for. -/
theorem checkKey_sound (b : Bool) : ∀ (n m : Nat) (t : TypeId) (ks : List Nat), kinds P n t = some ks → ∀ (l : List IV) (xs : Array Value) (x : Value) (w : World), VRs ι l xs.toList → l.length = ks.length → formed P t xs x →
    (Instr.checkKey b (m + n) t x).run P w = .ok () w
  | 0, _, _, _, h, _, _, _, _, _, _, _ => by cases h
  | n + 1, m, t, ks, h, l, xs, x, w, hl, hlen, hx => by
    obtain ⟨⟨d, hd⟩, hsz, hone⟩ := kinds_facts (n + 1) t ks h
    cases ha : isAggT P t with
    | false => exact checkKey_plain b (m + n) hd ha (kinds_noIface h hd) x w
    | true =>
      unfold kinds at h
      rw [hd] at h
      unfold formed at hx
      rw [if_pos ha] at hx
      subst hx
      cases d <;> simp only [] at h <;> try (unfold isAggT at ha; rw [hd] at ha; cases ha; done)
      case array => cases h
      case struct fs =>
        split at h
        · rename_i hc
          split at h
          · rename_i ks' hk1
            split at h
            · cases h
              simp only [Bool.and_eq_true, Bool.not_eq_true'] at hc
              simp only [Instr.checkKey, show m + (n + 1) = (m + n) + 1 by omega, Sem.run_bind, run_underlying hd, Result.andThen_ok]
              rw [← Array.forIn_toList]
              have key : ∀ (fs : List Field) (o : Nat) (ks : List Nat), kinds1 (kinds P n) fs = some ks → contig P o fs = true → o + ks.length ≤ xs.size → (∀ l : List IV, True) →
                  (forIn fs PUnit.unit fun f r => (if f.name ≠ "_" then do let y ← part f.type xs f.offset; Instr.checkKey b (m + n) f.type y; pure (ForInStep.yield PUnit.unit) else pure (ForInStep.yield PUnit.unit)) : Sem PUnit).run P w = .ok PUnit.unit w := by
                intro fs
                induction fs with
                | nil => intro o ks _ _ _ _; simp
                | cons f fs ih =>
                  intro o ks hk hcg hle _
                  unfold kinds1 at hk
                  split at hk
                  · rename_i k1 k2 e1 e2
                    split at hk
                    · rename_i hn
                      cases hk
                      unfold contig at hcg
                      split at hcg
                      · rename_i q hq
                        simp only [Bool.and_eq_true] at hcg
                        have hoff := Nat.eq_of_beq_eq_true hcg.1
                        obtain ⟨⟨d1, hd1⟩, hs1, ho1⟩ := kinds_facts n _ _ e1
                        rw [hq] at hs1; cases hs1
                        rw [List.length_append] at hle
                        obtain ⟨u, u1, u2⟩ := part_formed w hd1 hq (show o + k1.length ≤ xs.size by omega) ho1
                        have hq2 := checkKey_sound b n m f.type k1 e1 ((l.drop o).take k1.length) (xs.extract o (o + k1.length)) u w (by
                          have := VRs.take k1.length (VRs.drop o hl)
                          rw [Array.toList_extract, List.extract_eq_take_drop, show o + k1.length - o = k1.length by omega]
                          exact this) (by have := hl.length; simp at this ⊢; omega) u2
                        have hn' : f.name ≠ "_" := by simpa using hn
                        have := ih (o + k1.length) k2 e2 hcg.2 (by omega) (fun _ => trivial)
                        simp only [List.forIn_cons, hn', ne_eq, not_false_eq_true, if_true, Sem.run_bind, hoff, u1, hq2, Result.andThen_ok, Sem.run_pure]
                        exact this
                      · cases hcg
                    · cases hk
                  · cases hk
              have := key fs.toList 0 ks hk1 hc.2 (by have := hl.length; simp at this; omega) (fun _ => trivial)
              simp at this
              simp [this]
            · cases h
          · cases h
        · cases h
end
end Go.Fg
/- The ideal machine: each reading operation does in the model what it does here. -/



namespace Go.Fg

section
variable {P : Program} {ι : Emb} {τ : Fm} {a : Act} {H : Hp} {w : World}

theorem wrapI_eq (k : IntKind) (n : Int) : wrapI k n = k.wrap n := by
  have inr : inI64 n = true → IntKind.i64.wrap n = n := by
    intro h
    have hb : -9223372036854775808 ≤ n ∧ n ≤ 9223372036854775807 := by
      cases n with
      | ofNat m => have := Nat.le_of_ble_eq_true (show Nat.ble m 9223372036854775807 = true from h); simp; omega
      | negSucc m => have := Nat.le_of_ble_eq_true (show Nat.ble m 9223372036854775807 = true from h); omega
    exact IntWalk.i64_in n hb
  unfold wrapI
  rw [ifI_eq, ifI_eq]
  split
  · rename_i h
    have hk : k = .i64 := by cases k <;> simp [ikn] at h <;> rfl
    subst hk
    split
    · rename_i h2; exact (inr h2).symm
    · rfl
  · rfl

/-- A reading operation, once its operands are values. -/
def RdOk (P : Program) (ι : Emb) (H : Hp) (w : World) (o : Oper) (a : Act) (v : IV) : Prop := ∃ v', (execOp a.eval o).run P w = .ok (.value v') w ∧ VR ι v v'

theorem evs_cons (x : Od) (l : List Od) : evs τ (x :: l) = x.ev τ :: evs τ l := rfl
theorem evs_nil : evs τ [] = [] := rfl
theorem ods_cons_inv {x : Operand} {xs : List Operand} {l : List Od} (h : ods (x :: xs) = some l) : ∃ y ys, od x = some y ∧ ods xs = some ys ∧ l = y :: ys := by
  unfold ods at h
  split at h
  · rename_i b c h1 h2; cases h; exact ⟨b, c, h1, h2, rfl⟩
  · cases h
theorem ods_nil_inv {l : List Od} (h : ods [] = some l) : l = [] := by cases h; rfl
theorem ods2_inv {x y : Operand} {l : List Od} (h : ods [x, y] = some l) : ∃ u v, od x = some u ∧ od y = some v ∧ l = [u, v] := by
  obtain ⟨u, us, h1, h2, rfl⟩ := ods_cons_inv h
  obtain ⟨v, vs, h3, h4, rfl⟩ := ods_cons_inv h2
  cases ods_nil_inv h4
  exact ⟨u, v, h1, h3, rfl⟩
theorem ods3_inv {x y z : Operand} {l : List Od} (h : ods [x, y, z] = some l) : ∃ u v t, od x = some u ∧ od y = some v ∧ od z = some t ∧ l = [u, v, t] := by
  obtain ⟨u, us, h1, h2, rfl⟩ := ods_cons_inv h
  obtain ⟨v, t, h3, h4, rfl⟩ := ods2_inv h2
  exact ⟨u, v, t, h1, h3, h4, rfl⟩

variable (hT : TR ι τ a) (hH : HR ι H w)

theorem rd_move (hT : TR ι τ a) (hH : HR ι H w) {o : Oper} {x : Operand} {y : Od} {v : IV} (ho : o.op = .move x ∨ o.op = .assign x) (hy : od x = some y) (hv : Rd.ev .mv (evs τ [y]) H = some v) : RdOk P ι H w o a v := by
  cases hv
  exact ⟨a.eval x, by rcases ho with ho | ho <;> simp [execOp, ho], od_sound hT hy⟩

theorem rd_pick (hT : TR ι τ a) (hH : HR ι H w) {o : Oper} {c x y : Operand} {l : List Od} {v : IV} (ho : o.op = .pick c x y) (hy : ods [c, x, y] = some l) (hv : Rd.ev .pick (evs τ l) H = some v) : RdOk P ι H w o a v := by
  obtain ⟨u1, u2, u3, h1, h2, h3, rfl⟩ := ods3_inv hy
  have g1 := od_sound hT h1
  have hv' : evPick [u1.ev τ, u2.ev τ, u3.ev τ] = some v := hv
  unfold evPick at hv'
  split at hv'
  · rename_i b p q e
    injection e with e1 e2
    injection e2 with e2 e3
    injection e3 with e3 _
    cases hv'
    rw [e1] at g1
    have := vr_b g1
    refine ⟨if b then a.eval x else a.eval y, by cases b <;> simp [execOp, ho, this, asBool], ?_⟩
    subst e2 e3
    cases b
    · exact od_sound hT h3
    · exact od_sound hT h2
  · cases hv'

theorem prefix_drop {l m : List IV} (h : l <+: m) (n : Nat) : l.drop n <+: m.drop n := by
  obtain ⟨t, rfl⟩ := h
  rw [List.drop_append]
  exact List.prefix_append _ _
theorem rd_load (hT : TR ι τ a) (hH : HR ι H w) {o : Oper} {t : TypeId} {x : Operand} {r : Rd} {xs : List Od} {v : IV} (ho : o.op = .load t x) (hc : compOp P o = some (.rd r xs)) (hv : r.ev (evs τ xs) H = some v) : RdOk P ι H w o a v := by
  unfold compOp at hc
  rw [ho] at hc
  simp only [] at hc
  split at hc
  · rename_i hag
    split at hc
    · rename_i n hn
      obtain ⟨y, hy, e⟩ := rd1_inv hc
      cases e
      have g := od_sound hT hy
      have hv' : evLd n H [y.ev τ] = some v := hv
      unfold evLd at hv'
      split at hv'
      · rename_i b ofs e
        injection e with e _
        rw [e] at g
        obtain ⟨L, hL, hx⟩ := vr_p g
        split at hv'
        · rename_i l hl
          cases hv'
          obtain ⟨l', h1, h2, h3⟩ := read_sound (P := P) hH hl hL
          exact ⟨.agg l'.toArray, by simp [execOp, ho, hx, Instr.loadAt, Instr.sureAddr, loadVar, isAgg_true hag, run_sz hn, h3], .agg _ _ (by simpa using h1)⟩
        · cases hv'
      · rename_i l e
        injection e with e _
        rw [e] at g
        obtain ⟨l0, r, sh, d, h1, h2, hx⟩ := vr_pi g
        cases hb : Nat.ble n l.length with
        | false => rw [hb] at hv'; cases hv'
        | true =>
          rw [hb] at hv'
          cases hv'
          have hb := Nat.le_of_ble_eq_true hb
          obtain ⟨l', h3, h4⟩ := im_read (P := P) hH h1 (List.IsPrefix.trans (List.take_prefix n l) h2)
          rw [List.length_take, Nat.min_eq_left hb] at h4
          exact ⟨.agg l'.toArray, by simp [execOp, ho, hx, Instr.loadAt, Instr.sureAddr, loadVar, isAgg_true hag, run_sz hn, h4], .agg _ _ (by simpa using h3)⟩
      · cases hv'
    · cases hc
  · rename_i hag
    have hag : isAggT P t = false := by simpa using hag
    split at hc
    · rename_i d hd
      obtain ⟨y, hy, e⟩ := rd1_inv hc
      cases e
      have g := od_sound hT hy
      have hv' : evLd1 H [y.ev τ] = some v := hv
      unfold evLd1 at hv'
      split at hv'
      · rename_i b ofs e
        injection e with e _
        rw [e] at g
        obtain ⟨L, hL, hx⟩ := vr_p g
        obtain ⟨v', h1, h2⟩ := read1_sound hH hv' hL
        exact ⟨v', by simp [execOp, ho, hx, Instr.loadAt, Instr.sureAddr, loadVar, isAgg_false hag hd, h2], h1⟩
      · rename_i l e
        injection e with e _
        rw [e] at g
        obtain ⟨l0, r, sh, d', h1, h2, hx⟩ := vr_pi g
        obtain ⟨v', h3, h4⟩ := im_get hH h1 h2 hv'
        exact ⟨v', by simp [execOp, ho, hx, Instr.loadAt, Instr.sureAddr, loadVar, isAgg_false hag hd]; rw [Nat.add_zero] at h3; simp [h3], h4⟩
      · cases hv'
    · cases hc

theorem rd_nil (hT : TR ι τ a) (hH : HR ι H w) {o : Oper} {x : Operand} {y : Od} {v : IV} (ho : o.op = .nilCheck x) (hy : od x = some y) (hv : Rd.ev .nilck (evs τ [y]) H = some v) : RdOk P ι H w o a v := by
  have g := od_sound hT hy
  have hv' : nilckV (y.ev τ) = some v := hv
  unfold nilckV at hv'
  have hk : v = y.ev τ ∧ y.ev τ ≠ .pn ∧ y.ev τ ≠ .inn ∧ y.ev τ ≠ .fn := by
    split at hv' <;> first | (cases hv'; done) | skip
    rename_i n1 n2 n3
    cases hv'
    exact ⟨rfl, n1, n2, n3⟩
  obtain ⟨rfl, n1, n2, n3⟩ := hk
  refine ⟨a.eval x, ?_, g⟩
  revert g n1 n2 n3
  generalize y.ev τ = q
  generalize hx : a.eval x = q'
  intro g n1 n2 n3
  cases g <;> simp_all [execOp]

theorem rd_un (hT : TR ι τ a) (hH : HR ι H w) {o : Oper} {op : UnOp} {t : TypeId} {x : Operand} {r : Rd} {xs : List Od} {v : IV} (ho : o.op = .unOp op t x) (hc : compOp P o = some (.rd r xs)) (hv : r.ev (evs τ xs) H = some v) : RdOk P ι H w o a v := by
  unfold compOp at hc
  rw [ho] at hc
  simp only [] at hc
  split at hc
  · obtain ⟨y, hy, e⟩ := rd1_inv hc
    cases e
    have g := od_sound hT hy
    have hv' : evNeg [y.ev τ] = some v := hv
    unfold evNeg at hv'
    split at hv'
    · rename_i k n e
      injection e with e _
      rw [e] at g
      cases hv'
      have hx := vr_i g
      rw [wrapI_eq, isub_eq]
      exact ⟨.int k (k.wrap (0 - n)), by simp [execOp, ho, hx, Op.unary, Op.intArith], .i _ _⟩
    · cases hv'
  · obtain ⟨y, hy, e⟩ := rd1_inv hc
    cases e
    have g := od_sound hT hy
    have hv' : evNot [y.ev τ] = some v := hv
    unfold evNot at hv'
    split at hv'
    · rename_i k e
      injection e with e _
      rw [e] at g
      cases hv'
      have hx := vr_b g
      exact ⟨.bool (!k), by simp [execOp, ho, hx, Op.unary], .b _⟩
    · cases hv'
  · cases hc

theorem rd_fieldAddr (hT : TR ι τ a) (hH : HR ι H w) {o : Oper} {s : TypeId} {x : Operand} {f : Nat} {r : Rd} {xs : List Od} {v : IV} (ho : o.op = .fieldAddr s x f) (hc : compOp P o = some (.rd r xs)) (hv : r.ev (evs τ xs) H = some v) : RdOk P ι H w o a v := by
  unfold compOp at hc
  rw [ho] at hc
  simp only [] at hc
  split at hc
  · rename_i fs hd
    split at hc
    · rename_i fd hfd
      split at hc
      · rename_i n hn
        split at hc
        · cases hc
        · rename_i hz
          obtain ⟨y, hy, e⟩ := rd1_inv hc
          cases e
          have g := od_sound hT hy
          have hv' : evFa fd.offset [y.ev τ] = some v := hv
          unfold evFa at hv'
          split at hv'
          · rename_i b ofs e
            injection e with e _
            rw [e] at g
            obtain ⟨L, hL, hx⟩ := vr_p g
            cases hv'
            have hz' : n ≠ 0 := fun c => by subst c; exact hz rfl
            refine ⟨.pointer (some ⟨L.r, L.sh + (ofs + fd.offset), none⟩), ?_, .p _ _ L hL⟩
            simp [execOp, ho, hx, Instr.fieldAt, run_underlying hd, hfd, Instr.sureAddr, fieldPlace, run_sz hn, hz', addr_add, Nat.add_assoc]
          · rename_i l e
            injection e with e _
            rw [e] at g
            obtain ⟨l0, r, sh, d, h1, h2, hx⟩ := vr_pi g
            cases hv'
            have hz' : n ≠ 0 := fun c => by subst c; exact hz rfl
            refine ⟨.pointer (some ⟨r, sh + (d + fd.offset), none⟩), ?_, .pi _ l0 r sh (d + fd.offset) h1 ?_⟩
            · simp [execOp, ho, hx, Instr.fieldAt, run_underlying hd, hfd, Instr.sureAddr, fieldPlace, run_sz hn, hz', addr_add, Nat.add_assoc]
            · rw [← List.drop_drop]; exact prefix_drop h2 _
          · cases hv'
      · cases hc
    · cases hc
  · cases hc

theorem rd_field (hT : TR ι τ a) (hH : HR ι H w) {o : Oper} {s : TypeId} {x : Operand} {f : Nat} {r : Rd} {xs : List Od} {v : IV} (ho : o.op = .field s x f) (hc : compOp P o = some (.rd r xs)) (hv : r.ev (evs τ xs) H = some v) : RdOk P ι H w o a v := by
  unfold compOp at hc
  rw [ho] at hc
  simp only [] at hc
  split at hc
  · rename_i fs hd
    split at hc
    · rename_i fd hfd
      split at hc
      · rename_i n hn
        split at hc
        · rename_i hag
          obtain ⟨y, hy, e⟩ := rd1_inv hc
          cases e
          have g := od_sound hT hy
          have hv' : evFld fd.offset n [y.ev τ] = some v := hv
          unfold evFld at hv'
          split at hv'
          · rename_i l e
            injection e with e _
            rw [e] at g
            obtain ⟨l', hl, hx⟩ := vr_agg g
            split at hv'
            · rename_i c hcc
              cases hv'
              exact ⟨.agg (l'.extract fd.offset (fd.offset + n)), by simp [execOp, ho, hx, Instr.field, run_underlying hd, hfd, asAgg, part_agg hag hn], .agg _ _ (takeCells_sound hcc hl)⟩
            · cases hv'
          · cases hv'
        · rename_i hag
          have hag : isAggT P fd.type = false := by simpa using hag
          split at hc
          · rename_i d hdd
            obtain ⟨y, hy, e⟩ := rd1_inv hc
            cases e
            have g := od_sound hT hy
            have hv' : evFld1 fd.offset [y.ev τ] = some v := hv
            unfold evFld1 at hv'
            split at hv'
            · rename_i l e
              injection e with e _
              rw [e] at g
              obtain ⟨l', hl, hx⟩ := vr_agg g
              rw [nth_eq] at hv'
              obtain ⟨v', h1, h2⟩ := hl.get hv'
              exact ⟨v', by simp [execOp, ho, hx, Instr.field, run_underlying hd, hfd, asAgg, part_one hag hdd (show l'[fd.offset]? = some v' by simpa using h1)], h2⟩
            · cases hv'
          · cases hc
      · cases hc
    · cases hc
  · cases hc

theorem rd_extract (hT : TR ι τ a) (hH : HR ι H w) {o : Oper} {i : Nat} {x : Operand} {y : Od} {v : IV} (ho : o.op = .extract x i) (hy : od x = some y) (hv : Rd.ev (.ext i) (evs τ [y]) H = some v) : RdOk P ι H w o a v := by
  have g := od_sound hT hy
  have hv' : evExt i [y.ev τ] = some v := hv
  unfold evExt at hv'
  split at hv'
  · rename_i l e
    injection e with e _
    rw [e] at g
    obtain ⟨l', hl, hx⟩ := vr_tup g
    rw [nth_eq] at hv'
    obtain ⟨v', h1, h2⟩ := hl.get hv'
    exact ⟨v', by simp [execOp, ho, hx, Instr.extract, show l'[i]? = some v' by simpa using h1], h2⟩
  · cases hv'

theorem rd_makeFunc (hT : TR ι τ a) (hH : HR ι H w) {o : Oper} {fn : Fn} {first captured : Array Operand} {r : Rd} {xs : List Od} {v : IV} (ho : o.op = .makeFunc fn first captured) (hc : compOp P o = some (.rd r xs)) (hv : r.ev (evs τ xs) H = some v) : RdOk P ι H w o a v := by
  unfold compOp at hc
  rw [ho] at hc
  simp only [] at hc
  split at hc
  · rename_i f
    split at hc
    · rename_i hf
      obtain ⟨y, hy, e⟩ := rds_inv hc
      cases e
      cases hv
      have g := ods_sound hT hy
      have hf1 : first = #[] := Array.eq_empty_of_size_eq_zero hf.2
      subst hf1
      exact ⟨.func (.func f) #[] (captured.map a.eval), by simp [execOp, ho, Instr.makeFunc], .f f hf.1 _ _ (by simpa using g)⟩
    · cases hc
  · cases hc

theorem rd_makeInterface (hT : TR ι τ a) (hH : HR ι H w) {o : Oper} {t : TypeId} {x : Operand} {r : Rd} {xs : List Od} {v : IV} (ho : o.op = .makeInterface t x) (hc : compOp P o = some (.rd r xs)) (hv : r.ev (evs τ xs) H = some v) : RdOk P ι H w o a v := by
  unfold compOp at hc
  rw [ho] at hc
  simp only [] at hc
  split at hc
  · cases hc
  · rename_i d hn hd
    split at hc
    case isFalse => cases hc
    rename_i ht
    obtain ⟨y, hy, e⟩ := rd1_inv hc
    cases e
    cases hv
    refine ⟨.iface t (a.eval x), ?_, .ic _ ht _ _ (od_sound hT hy)⟩
    have : ∀ ms, d ≠ .interface ms := fun ms e => hn ms e
    cases d <;> simp_all [execOp, Instr.makeInterface, run_underlying hd]
  · cases hc
end
end Go.Fg
/- The ideal machine: operators, indexes, slices, maps, lengths. -/
namespace Go.Fg

section
variable {P : Program} {ι : Emb} {τ : Fm} {a : Act} {H : Hp} {w : World}

theorem cond_some {α : Type} {b : Bool} {x : Option α} {v : α} (h : cond b x none = some v) : b = true ∧ x = some v := by
  cases b with
  | false => cases h
  | true => exact ⟨rfl, h⟩
theorem cond_none {α : Type} {b : Bool} {x : Option α} {v : α} (h : cond b none x = some v) : b = false ∧ x = some v := by
  cases b with
  | true => cases h
  | false => exact ⟨rfl, h⟩

/-- The two operands of an operator. -/
theorem pair_inv (hT : TR ι τ a) {x y : Operand} {l : List Od} (h : ods [x, y] = some l) : ∃ u v, evs τ l = [u, v] ∧ VR ι u (a.eval x) ∧ VR ι v (a.eval y) := by
  obtain ⟨u, v, h1, h2, rfl⟩ := ods2_inv h
  exact ⟨_, _, rfl, od_sound hT h1, od_sound hT h2⟩

theorem guard_none (op : BinOp) (t : TypeId) (x y : Operand) (p q : Value) (h1 : ¬ (p = .nilIface ∧ q = .nilIface)) (h2 : ∀ xs ys, ¬ (p = .agg xs ∧ q = .agg ys)) : (eqGuard op t x y p q).run P w = .ok () w := by
  unfold eqGuard
  cases op <;> simp <;> (cases p <;> cases q <;> simp_all)

theorem binI_sound (op : BinOp) (t : TypeId) (k : IntKind) (x y : Int) {v : IV} (h : binI op k x y = some v) (hs : op ≠ .shl ∧ op ≠ .shr) :
    ∃ v', (binOp op t (.int k x) (.int k y)).run P w = .ok v' w ∧ VR ι v v' := by
  unfold binI at h
  cases op <;> simp only [] at h
  case add => cases h; exact ⟨.int k (k.wrap (x + y)), by simp [binOp, Op.intArith], by unfold addV; rw [wrapI_eq, iadd_eq]; exact .i _ _⟩
  case sub => cases h; exact ⟨.int k (k.wrap (x - y)), by simp [binOp, Op.intArith], by unfold subV; rw [wrapI_eq, isub_eq]; exact .i _ _⟩
  case mul => cases h; exact ⟨.int k (k.wrap (x * y)), by simp [binOp, Op.intArith], by unfold mulV; rw [wrapI_eq]; exact .i _ _⟩
  case quo =>
    obtain ⟨h1, h2⟩ := cond_none h
    cases h2
    have hy : y ≠ 0 := by rw [ieq_eq] at h1; simpa using h1
    exact ⟨.int k (k.wrap (x.tdiv y)), by simp [binOp, Op.intDiv, hy], by rw [wrapI_eq]; exact .i _ _⟩
  case rem =>
    obtain ⟨h1, h2⟩ := cond_none h
    cases h2
    have hy : y ≠ 0 := by rw [ieq_eq] at h1; simpa using h1
    exact ⟨.int k (x.tmod y), by simp [binOp, Op.intDiv, hy], .i _ _⟩
  case and => cases h; exact ⟨_, by simp [binOp, Op.intBits], .i _ _⟩
  case or => cases h; exact ⟨_, by simp [binOp, Op.intBits], .i _ _⟩
  case xor => cases h; exact ⟨_, by simp [binOp, Op.intBits], .i _ _⟩
  case shl => exact absurd rfl hs.1
  case shr => exact absurd rfl hs.2
  case andNot => cases h
  case eql => cases h; exact ⟨.bool (x == y), by simp [binOp, Op.intCmp], by unfold eqlV; rw [ieq_eq]; exact .b _⟩
  case neq => cases h; exact ⟨.bool (x != y), by simp [binOp, Op.intCmp], by unfold neqV; rw [ieq_eq, notB_eq]; exact .b _⟩
  case lss => cases h; exact ⟨.bool (x < y), by simp [binOp, Op.intCmp], by
      unfold lssV; rw [ile_eq, notB_eq]
      have : (!decide (y ≤ x)) = decide (x < y) := by rw [← decide_not]; congr 1; simp
      rw [this]; exact .b _⟩
  case leq => cases h; exact ⟨.bool (x ≤ y), by simp [binOp, Op.intCmp], by unfold leqV; rw [ile_eq]; exact .b _⟩
  case gtr => cases h; exact ⟨.bool (x > y), by simp [binOp, Op.intCmp], by
      unfold gtrV; rw [ile_eq, notB_eq]
      have : (!decide (x ≤ y)) = decide (x > y) := by rw [← decide_not]; congr 1; simp
      rw [this]; exact .b _⟩
  case geq => cases h; exact ⟨.bool (x ≥ y), by simp [binOp, Op.intCmp], by unfold geqV; rw [ile_eq]; exact .b _⟩

theorem shiftI_sound (op : BinOp) (t : TypeId) (k j : IntKind) (x y : Int) {v : IV} (h : shiftI op k x y = some v) :
    ∃ v', (binOp op t (.int k x) (.int j y)).run P w = .ok v' w ∧ VR ι v v' := by
  unfold shiftI at h
  split at h
  · rename_i n
    cases h
    exact ⟨.int k (k.wrap (x * 2 ^ (min n k.bits))), by simp [binOp, Op.shift]; intro h; omega, .i _ _⟩
  · rename_i n
    cases h
    exact ⟨.int k (x.fdiv (2 ^ (min n k.bits))), by simp [binOp, Op.shift]; intro h; omega, .i _ _⟩
  · cases h

theorem slt_eq : ∀ (u v : List UInt8), slt (u.map UInt8.toNat) (v.map UInt8.toNat) = Op.bytesLess u v
  | [], [] => rfl
  | [], _ :: _ => rfl
  | _ :: _, [] => rfl
  | a :: u, b :: v => by
    show cond (Nat.blt a.toNat b.toNat) true (cond (Nat.beq a.toNat b.toNat) (slt (u.map UInt8.toNat) (v.map UInt8.toNat)) false) = _
    rw [slt_eq u v]
    simp only [Op.bytesLess]
    by_cases h1 : a.toNat < b.toNat
    · have : Nat.blt a.toNat b.toNat = true := by simpa [Nat.blt_eq] using h1
      rw [this]
      have h2 : a < b := UInt8.lt_iff_toNat_lt.2 h1
      simp [h2]
    · have : Nat.blt a.toNat b.toNat = false := by
        cases c : Nat.blt a.toNat b.toNat with
        | false => rfl
        | true => rw [Nat.blt_eq] at c; exact absurd c h1
      rw [this]
      have h2 : ¬ a < b := fun c => h1 (UInt8.lt_iff_toNat_lt.1 c)
      by_cases h3 : a = b
      · subst h3; simp
      · have : a.toNat ≠ b.toNat := fun e => h3 (UInt8.toNat_inj.1 e)
        rw [beq_no this]
        simp [h2, h3]

theorem binS_sound (op : BinOp) (t : TypeId) {x y : ByteArray} {v : IV} (h : binS op (x.data.toList.map UInt8.toNat) (y.data.toList.map UInt8.toNat) = some v) :
    ∃ v', (binOp op t (.string x) (.string y)).run P w = .ok v' w ∧ VR ι v v' := by
  have hbe : seq (x.data.toList.map UInt8.toNat) (y.data.toList.map UInt8.toNat) = (x.toList == y.toList) := by rw [seq_eq, bytes_beq]
  have hlt : slt (x.data.toList.map UInt8.toNat) (y.data.toList.map UInt8.toNat) = Op.bytesLess x.toList y.toList := by rw [slt_eq, ByteArray.toList_eq, ByteArray.toList_eq]
  unfold binS at h
  rw [hbe, hlt] at h
  cases op <;> simp only [] at h <;> try (cases h; done)
  case add =>
    obtain ⟨h1, h2⟩ := cond_some h
    cases h2
    have h1' := Nat.le_of_ble_eq_true h1
    have : (x.size : Int) + (y.size : Int) ≤ 9223372036854775807 := by
      have e1 : x.size = (x.data.toList.map UInt8.toNat).length := by rw [List.length_map, Array.length_toList]; rfl
      have e2 : y.size = (y.data.toList.map UInt8.toNat).length := by rw [List.length_map, Array.length_toList]; rfl
      rw [e1, e2]
      unfold bound at h1'
      omega
    refine ⟨.string (x ++ y), by simp [binOp, Op.stringOp]; exact this, .s _ _ ?_⟩
    rw [ByteArray.data_append, Array.toList_append, List.map_append]
  case eql => cases h; exact ⟨.bool (x.toList == y.toList), by simp [binOp, Op.stringOp], .b _⟩
  case neq => cases h; exact ⟨.bool (!(x.toList == y.toList)), by simp [binOp, Op.stringOp], .b _⟩
  case lss => cases h; exact ⟨.bool (Op.bytesLess x.toList y.toList), by simp [binOp, Op.stringOp], .b _⟩
  case leq => cases h; exact ⟨.bool (Op.bytesLess x.toList y.toList || x.toList == y.toList), by simp [binOp, Op.stringOp], .b _⟩
  case gtr => cases h; exact ⟨.bool (!(Op.bytesLess x.toList y.toList || x.toList == y.toList)), by simp [binOp, Op.stringOp], .b _⟩
  case geq => cases h; exact ⟨.bool (!(Op.bytesLess x.toList y.toList)), by simp [binOp, Op.stringOp], .b _⟩

theorem eqIn_ptr1 (d : Nat) {t e : TypeId} (hd : P.underlying t = some (.pointer e)) (p : Option Addr) : (Op.equalIn (d + 1) t (.pointer p) (.pointer none)).run P w = .ok p.isNone w := by
  cases p <;> simp [Op.equalIn, run_underlying hd]
theorem eqIn_ptr2 (d : Nat) {t e : TypeId} (hd : P.underlying t = some (.pointer e)) (p : Option Addr) : (Op.equalIn (d + 1) t (.pointer none) (.pointer p)).run P w = .ok p.isNone w := by
  simp [Op.equalIn, run_underlying hd]
theorem eqIn_sl2 (d : Nat) {t e : TypeId} (hd : P.underlying t = some (.slice e)) (p : Addr) (n c : Nat) : (Op.equalIn (d + 1) t (.slice none 0 0) (.slice (some p) n c)).run P w = .ok false w := by
  simp [Op.equalIn, run_underlying hd]
theorem eqIn_map2 (d : Nat) {t k e : TypeId} (hd : P.underlying t = some (.map k e)) (p : Option Nat) : (Op.equalIn (d + 1) t (.map none) (.map p)).run P w = .ok p.isNone w := by
  simp [Op.equalIn, run_underlying hd]
theorem eqIn_fn0 (d : Nat) {t : TypeId} {a b : Array TypeId} {c : Bool} (hd : P.underlying t = some (.func a b c)) : (Op.equalIn (d + 1) t .nilFunc .nilFunc).run P w = .ok true w := by
  simp [Op.equalIn, run_underlying hd]
theorem eqIn_fn1 (d : Nat) {t : TypeId} {a b : Array TypeId} {c : Bool} (hd : P.underlying t = some (.func a b c)) (f : Fn) (x y : Array Value) : (Op.equalIn (d + 1) t (.func f x y) .nilFunc).run P w = .ok false w := by
  simp [Op.equalIn, run_underlying hd]
theorem eqIn_fn2 (d : Nat) {t : TypeId} {a b : Array TypeId} {c : Bool} (hd : P.underlying t = some (.func a b c)) (f : Fn) (x y : Array Value) : (Op.equalIn (d + 1) t .nilFunc (.func f x y)).run P w = .ok false w := by
  simp [Op.equalIn, run_underlying hd]

theorem run_binop {o : Oper} {op : BinOp} {t yt : TypeId} {x y : Operand} {v' : Value} (ho : o.op = .binOp op t x y yt) (hg : (eqGuard op t x y (a.eval x) (a.eval y)).run P w = .ok () w)
    (h : (binOp op t (a.eval x) (a.eval y)).run P w = .ok v' w) : (execOp a.eval o).run P w = .ok (.value v') w := by
  simp [execOp, ho, hg, h]

variable (hT : TR ι τ a) (hH : HR ι H w)

theorem rd_bin (hT : TR ι τ a) (hH : HR ι H w) {o : Oper} {op : BinOp} {t yt : TypeId} {x y : Operand} {l : List Od} {v : IV} (ho : o.op = .binOp op t x y yt) (hl : ods [x, y] = some l) (hv : evBin op (evs τ l) = some v) : RdOk P ι H w o a v := by
  obtain ⟨u, u', e, h1, h2⟩ := pair_inv hT hl
  rw [e] at hv
  unfold evBin at hv
  split at hv
  · rename_i k p j q e
    injection e with e1 e2
    injection e2 with e2 _
    subst e1 e2
    have x1 := vr_i h1
    have x2 := vr_i h2
    have hg : (eqGuard op t x y (a.eval x) (a.eval y)).run P w = .ok () w := guard_none op t x y _ _ (by rw [x1]; simp) (by rw [x1]; simp)
    have : ∃ v', (binOp op t (.int k p) (.int j q)).run P w = .ok v' w ∧ VR ι v v' := by
      split at hv
      · exact shiftI_sound _ t k j p q hv
      · exact shiftI_sound _ t k j p q hv
      · rename_i n1 n2
        obtain ⟨g1, g2⟩ := cond_some hv
        have := (kEq_iff k j).1 g1
        subst this
        exact binI_sound op t k p q g2 ⟨n1, n2⟩
    obtain ⟨v', f1, f2⟩ := this
    rw [← x1, ← x2] at f1
    exact ⟨v', run_binop ho hg f1, f2⟩
  · cases hv

theorem rd_bins (hT : TR ι τ a) (hH : HR ι H w) {o : Oper} {op : BinOp} {t yt : TypeId} {x y : Operand} {l : List Od} {v : IV} (ho : o.op = .binOp op t x y yt) (hl : ods [x, y] = some l) (hv : evBins op (evs τ l) = some v) : RdOk P ι H w o a v := by
  obtain ⟨u, u', e, h1, h2⟩ := pair_inv hT hl
  rw [e] at hv
  unfold evBins at hv
  split at hv
  · rename_i p q e
    injection e with e1 e2
    injection e2 with e2 _
    subst e1 e2
    obtain ⟨bx, b1, x1⟩ := vr_s h1
    obtain ⟨by', b2, x2⟩ := vr_s h2
    subst b1 b2
    have hg : (eqGuard op t x y (a.eval x) (a.eval y)).run P w = .ok () w := guard_none op t x y _ _ (by rw [x1]; simp) (by rw [x1]; simp)
    obtain ⟨v', f1, f2⟩ := binS_sound (P := P) (ι := ι) (w := w) op t hv
    rw [← x1, ← x2] at f1
    exact ⟨v', run_binop ho hg f1, f2⟩
  · cases hv

theorem rd_eq (hT : TR ι τ a) (hH : HR ι H w) {o : Oper} {neg : Bool} {t yt : TypeId} {x y : Operand} {r : Rd} {xs : List Od} {v : IV} (ho : o.op = .binOp (if neg then .neq else .eql) t x y yt) (hc : eqOp P t neg x y = some (.rd r xs)) (hv : r.ev (evs τ xs) H = some v) : RdOk P ι H w o a v := by
  have neq : ∀ {p q : Value} {b : Bool}, (Op.equal t p q).run P w = .ok b w → (∀ k a j b, ¬ (p = .int k a ∧ q = .int j b)) → (∀ k a j b, ¬ (p = .float k a ∧ q = .float j b)) → (∀ k a b j c d, ¬ (p = .complex k a b ∧ q = .complex j c d)) → (∀ a b, ¬ (p = .string a ∧ q = .string b)) →
      (binOp (if neg then .neq else .eql) t p q).run P w = .ok (.bool (if neg then !b else b)) w := by
    intro p q b h n1 n2 n3 n4
    cases neg
    · cases p <;> cases q <;> first
        | exact absurd ⟨rfl, rfl⟩ (n1 _ _ _ _)
        | exact absurd ⟨rfl, rfl⟩ (n2 _ _ _ _)
        | exact absurd ⟨rfl, rfl⟩ (n3 _ _ _ _ _ _)
        | exact absurd ⟨rfl, rfl⟩ (n4 _ _)
        | (simp [binOp, h]; done)
    · cases p <;> cases q <;> first
        | exact absurd ⟨rfl, rfl⟩ (n1 _ _ _ _)
        | exact absurd ⟨rfl, rfl⟩ (n2 _ _ _ _)
        | exact absurd ⟨rfl, rfl⟩ (n3 _ _ _ _ _ _)
        | exact absurd ⟨rfl, rfl⟩ (n4 _ _)
        | (simp [binOp, h]; done)
  have fin : ∀ {p q : Value} {b : Bool}, a.eval x = p → a.eval y = q → (Op.equal t p q).run P w = .ok b w → (eqGuard (if neg then .neq else .eql) t x y p q).run P w = .ok () w → v = .b (if neg then !b else b) → (∀ k a j b, ¬ (p = .int k a ∧ q = .int j b)) → (∀ k a j b, ¬ (p = .float k a ∧ q = .float j b)) → (∀ k a b j c d, ¬ (p = .complex k a b ∧ q = .complex j c d)) → (∀ a b, ¬ (p = .string a ∧ q = .string b)) → RdOk P ι H w o a v := by
    intro p q b e1 e2 h hg hv n1 n2 n3 n4
    subst hv
    exact ⟨_, run_binop ho (by rw [e1, e2]; exact hg) (by rw [e1, e2]; exact neq h n1 n2 n3 n4), .b _⟩
  unfold eqOp at hc
  split at hc
  · obtain ⟨l, hl, e⟩ := rds_inv hc; cases e; exact rd_bin hT hH ho hl hv
  · obtain ⟨l, hl, e⟩ := rds_inv hc; cases e; exact rd_bins hT hH ho hl hv
  · rename_i hd
    obtain ⟨l, hl, e⟩ := rds_inv hc; cases e
    obtain ⟨u, u', e, h1, h2⟩ := pair_inv hT hl
    have hv' : evEqb neg (evs τ xs) = some v := hv
    rw [e] at hv'
    unfold evEqb at hv'
    split at hv'
    · rename_i p q e
      injection e with e1 e2
      injection e2 with e2 _
      subst e1 e2
      cases hv'
      exact fin (vr_b h1) (vr_b h2) (run_equal_bool w t p q hd) (guard_none _ t x y _ _ (by simp) (by simp)) (by cases neg <;> cases p <;> cases q <;> rfl) (by simp) (by simp) (by simp) (by simp)
    · cases hv'
  · rename_i e0 hd
    obtain ⟨l, hl, e⟩ := rds_inv hc; cases e
    obtain ⟨u, u', e, h1, h2⟩ := pair_inv hT hl
    have hv' : evEqp neg (evs τ xs) = some v := hv
    rw [e] at hv'
    unfold evEqp at hv'
    have q1 : ∀ (p : Option Addr), (Op.equal t (.pointer p) (.pointer none)).run P w = .ok p.isNone w := by
      intro p; exact eqIn_ptr1 9999 hd p
    have q2 : ∀ (p : Option Addr), (Op.equal t (.pointer none) (.pointer p)).run P w = .ok p.isNone w := by
      intro p; exact eqIn_ptr2 9999 hd p
    split at hv'
    · rename_i e
      injection e with e1 e2
      injection e2 with e2 _
      subst e1 e2
      cases hv'
      exact fin (vr_pn h1) (vr_pn h2) (q1 none) (guard_none _ t x y _ _ (by simp) (by simp)) (by cases neg <;> rfl) (by simp) (by simp) (by simp) (by simp)
    · rename_i b o' e
      injection e with e1 e2
      injection e2 with e2 _
      subst e1 e2
      cases hv'
      obtain ⟨L, _, x1⟩ := vr_p h1
      exact fin x1 (vr_pn h2) (q1 _) (guard_none _ t x y _ _ (by simp) (by simp)) (by cases neg <;> rfl) (by simp) (by simp) (by simp) (by simp)
    · rename_i b o' e
      injection e with e1 e2
      injection e2 with e2 _
      subst e1 e2
      cases hv'
      obtain ⟨L, _, x2⟩ := vr_p h2
      exact fin (vr_pn h1) x2 (q2 _) (guard_none _ t x y _ _ (by simp) (by simp)) (by cases neg <;> rfl) (by simp) (by simp) (by simp) (by simp)
    · rename_i l' e
      injection e with e1 e2
      injection e2 with e2 _
      subst e1 e2
      cases hv'
      obtain ⟨_, _, _, _, _, _, x1⟩ := vr_pi h1
      exact fin x1 (vr_pn h2) (q1 _) (guard_none _ t x y _ _ (by simp) (by simp)) (by cases neg <;> rfl) (by simp) (by simp) (by simp) (by simp)
    · rename_i l' e
      injection e with e1 e2
      injection e2 with e2 _
      subst e1 e2
      cases hv'
      obtain ⟨_, _, _, _, _, _, x2⟩ := vr_pi h2
      exact fin (vr_pn h1) x2 (q2 _) (guard_none _ t x y _ _ (by simp) (by simp)) (by cases neg <;> rfl) (by simp) (by simp) (by simp) (by simp)
    · cases hv'
  · rename_i e0 hd
    obtain ⟨l, hl, e⟩ := rds_inv hc; cases e
    obtain ⟨u, u', e, h1, h2⟩ := pair_inv hT hl
    have hv' : evEqs neg (evs τ xs) = some v := hv
    rw [e] at hv'
    unfold evEqs at hv'
    have q1 : ∀ (p : Option Addr) (n c : Nat), (Op.equal t (.slice p n c) (.slice none 0 0)).run P w = .ok p.isNone w := by
      intro p n c; exact run_equal_slice_nil w t e0 p n c hd
    have q2 : ∀ (p : Addr) (n c : Nat), (Op.equal t (.slice none 0 0) (.slice (some p) n c)).run P w = .ok false w := by
      intro p n c; exact eqIn_sl2 9999 hd p n c
    have sl : ∀ {b : Pos} {o n c z : Nat} {q : Value}, VR ι (.sl b o n c z) q → ∃ ad m k, q = .slice (some ad) m k := by
      intro b o n c z q h
      rcases vr_sl h with ⟨L, c', _, _, _, _, e⟩ | ⟨ad, _, _, e⟩
      · exact ⟨_, _, _, e⟩
      · exact ⟨_, _, _, e⟩
    have sli : ∀ {u : List IV} {us : List (List IV)} {q : Value}, VR ι (.sli (u :: us)) q → ∃ ad m k, q = .slice (some ad) m k := by
      intro u us q h
      rcases vr_sli h with ⟨_, _, _, _, _, _, _, _, _, _, e⟩ | ⟨e, _⟩ | ⟨e, _⟩
      · exact ⟨_, _, _, e⟩
      · cases e
      · cases e
    split at hv'
    · rename_i e
      injection e with e1 e2
      injection e2 with e2 _
      subst e1 e2
      cases hv'
      exact fin (vr_sn h1) (vr_sn h2) (q1 none 0 0) (guard_none _ t x y _ _ (by simp) (by simp)) (by cases neg <;> rfl) (by simp) (by simp) (by simp) (by simp)
    · rename_i e
      injection e with e1 e2
      injection e2 with e2 _
      subst e1 e2
      cases hv'
      obtain ⟨ad, m, k, x1⟩ := sl h1
      exact fin x1 (vr_sn h2) (q1 _ _ _) (guard_none _ t x y _ _ (by simp) (by simp)) (by cases neg <;> rfl) (by simp) (by simp) (by simp) (by simp)
    · rename_i e
      injection e with e1 e2
      injection e2 with e2 _
      subst e1 e2
      cases hv'
      obtain ⟨ad, m, k, x2⟩ := sl h2
      exact fin (vr_sn h1) x2 (q2 _ _ _) (guard_none _ t x y _ _ (by simp) (by simp)) (by cases neg <;> rfl) (by simp) (by simp) (by simp) (by simp)
    · rename_i e
      injection e with e1 e2
      injection e2 with e2 _
      subst e1 e2
      cases hv'
      obtain ⟨ad, m, k, x1⟩ := sli h1
      exact fin x1 (vr_sn h2) (q1 _ _ _) (guard_none _ t x y _ _ (by simp) (by simp)) (by cases neg <;> rfl) (by simp) (by simp) (by simp) (by simp)
    · rename_i e
      injection e with e1 e2
      injection e2 with e2 _
      subst e1 e2
      cases hv'
      obtain ⟨ad, m, k, x2⟩ := sli h2
      exact fin (vr_sn h1) x2 (q2 _ _ _) (guard_none _ t x y _ _ (by simp) (by simp)) (by cases neg <;> rfl) (by simp) (by simp) (by simp) (by simp)
    · cases hv'
  · rename_i e0 e1 hd
    obtain ⟨l, hl, e⟩ := rds_inv hc; cases e
    obtain ⟨u, u', e, h1, h2⟩ := pair_inv hT hl
    have hv' : evEqm neg (evs τ xs) = some v := hv
    rw [e] at hv'
    unfold evEqm at hv'
    have q1 : ∀ (p : Option Nat), (Op.equal t (.map p) (.map none)).run P w = .ok p.isNone w := by
      intro p; exact run_equal_map_nil w t _ _ p hd
    have q2 : ∀ (p : Option Nat), (Op.equal t (.map none) (.map p)).run P w = .ok p.isNone w := by
      intro p; exact eqIn_map2 9999 hd p
    have mi : ∀ {u : List IV} {k0 : IV} {us : List IV} {q : Value}, VR ι (.mi (k0 :: u) us) q → ∃ r, q = .map (some r) := by
      intro u k0 us q h
      rcases vr_mi h with ⟨r, _, e⟩ | ⟨e, _⟩
      · exact ⟨_, e⟩
      · cases e
    split at hv'
    · rename_i e
      injection e with e1 e2
      injection e2 with e2 _
      subst e1 e2
      cases hv'
      exact fin (vr_mn h1) (vr_mn h2) (q1 none) (guard_none _ t x y _ _ (by simp) (by simp)) (by cases neg <;> rfl) (by simp) (by simp) (by simp) (by simp)
    · rename_i e
      injection e with e1 e2
      injection e2 with e2 _
      subst e1 e2
      cases hv'
      obtain ⟨L, _, x1⟩ := vr_m h1
      exact fin x1 (vr_mn h2) (q1 _) (guard_none _ t x y _ _ (by simp) (by simp)) (by cases neg <;> rfl) (by simp) (by simp) (by simp) (by simp)
    · rename_i e
      injection e with e1 e2
      injection e2 with e2 _
      subst e1 e2
      cases hv'
      obtain ⟨L, _, x2⟩ := vr_m h2
      exact fin (vr_mn h1) x2 (q2 _) (guard_none _ t x y _ _ (by simp) (by simp)) (by cases neg <;> rfl) (by simp) (by simp) (by simp) (by simp)
    · rename_i e
      injection e with e1 e2
      injection e2 with e2 _
      subst e1 e2
      cases hv'
      obtain ⟨r', x1⟩ := mi h1
      exact fin x1 (vr_mn h2) (q1 _) (guard_none _ t x y _ _ (by simp) (by simp)) (by cases neg <;> rfl) (by simp) (by simp) (by simp) (by simp)
    · rename_i e
      injection e with e1 e2
      injection e2 with e2 _
      subst e1 e2
      cases hv'
      obtain ⟨r', x2⟩ := mi h2
      exact fin (vr_mn h1) x2 (q2 _) (guard_none _ t x y _ _ (by simp) (by simp)) (by cases neg <;> rfl) (by simp) (by simp) (by simp) (by simp)
    · cases hv'
  · rename_i e0 e1 e2 hd
    obtain ⟨l, hl, e⟩ := rds_inv hc; cases e
    obtain ⟨u, u', e, h1, h2⟩ := pair_inv hT hl
    have hv' : evEqf neg (evs τ xs) = some v := hv
    rw [e] at hv'
    unfold evEqf at hv'
    have fv : ∀ {f : Pos} {c : List IV} {q : Value}, VR ι (.f f c) q → ∃ n c', q = .func n #[] c' := by
      intro f c q h; cases h; exact ⟨_, _, rfl⟩
    split at hv'
    · rename_i e
      injection e with e1 e2
      injection e2 with e2 _
      subst e1 e2
      cases hv'
      exact fin (b := true) (vr_fn h1) (vr_fn h2) (eqIn_fn0 9999 hd) (guard_none _ t x y _ _ (by simp) (by simp)) (by cases neg <;> rfl) (by simp) (by simp) (by simp) (by simp)
    · rename_i e
      injection e with e1 e2
      injection e2 with e2 _
      subst e1 e2
      cases hv'
      obtain ⟨n, c', x1⟩ := fv h1
      exact fin (b := false) x1 (vr_fn h2) (eqIn_fn1 9999 hd _ _ _) (guard_none _ t x y _ _ (by simp) (by simp)) (by cases neg <;> rfl) (by simp) (by simp) (by simp) (by simp)
    · rename_i e
      injection e with e1 e2
      injection e2 with e2 _
      subst e1 e2
      cases hv'
      obtain ⟨n, c', x2⟩ := fv h2
      exact fin (b := false) (vr_fn h1) x2 (eqIn_fn2 9999 hd _ _ _) (guard_none _ t x y _ _ (by simp) (by simp)) (by cases neg <;> rfl) (by simp) (by simp) (by simp) (by simp)
    · cases hv'
  · rename_i fs hd
    split at hc
    · rename_i ks hk
      split at hc
      · rename_i hgd
        obtain ⟨l, hl, e⟩ := rds_inv hc; cases e
        obtain ⟨u, u', e, h1, h2⟩ := pair_inv hT hl
        have hv' : evEqa neg ks (evs τ xs) = some v := hv
        rw [e] at hv'
        unfold evEqa at hv'
        split at hv'
        · rename_i p q e
          injection e with e1 e2
          injection e2 with e2 _
          subst e1 e2
          split at hv'
          · rename_i b hb
            cases hv'
            obtain ⟨xs, g1, x1⟩ := vr_agg h1
            obtain ⟨ys, g2, x2⟩ := vr_agg h2
            have ha : isAggT P t = true := by unfold isAggT; rw [hd]
            have := kinds_sound (P := P) 9992 8 t ks hk w ι p q xs ys (.agg xs) (.agg ys) b (kinds_facts 8 t ks hk).2.1 g1 g2 (by unfold formed; rw [if_pos ha]) (by unfold formed; rw [if_pos ha]) hb
            exact fin (b := b) x1 x2 this (run_eqGuard_agg w _ t x y xs ys (by simpa using hgd)) (by cases neg <;> rfl) (by simp) (by simp) (by simp) (by simp)
          · cases hv'
        · cases hv'
      · cases hc
    · cases hc
  · cases hc
end
end Go.Fg
/- The ideal machine: the rest of the reading operations. -/
namespace Go.Fg

section
variable {P : Program} {ι : Emb} {τ : Fm} {a : Act} {H : Hp} {w : World}

theorem bytesI_sound : ∀ {l : List IV} {l' : List Value} {s : List Nat}, bytesI l = some s → VRs ι l l' → ∃ bs : List UInt8, bs.map UInt8.toNat = s ∧ l' = bs.map fun b => Value.int .u8 (b.toNat : Int)
  | [], _, s, h, hv => by
    cases hv; cases h; exact ⟨[], rfl, rfl⟩
  | x :: l, _, s, h, hv => by
    cases hv
    rename_i y ys hx ht
    unfold bytesI at h
    split at h
    · rename_i e; cases e
    · rename_i n r e
      injection e with e1 e2
      subst e1 e2
      obtain ⟨h1, h2⟩ := cond_some h
      split at h2
      · rename_i q hq
        cases h2
        obtain ⟨bs, g1, g2⟩ := bytesI_sound hq ht
        have hn : n < 256 := by rwa [Nat.blt_eq] at h1
        refine ⟨UInt8.ofNat n :: bs, by simp [g1, Nat.mod_eq_of_lt hn], ?_⟩
        rw [vr_i hx, g2]
        simp [Nat.mod_eq_of_lt hn]
      · cases h2
    · cases h

theorem run_bytes (bs : List UInt8) : ∀ (s : ByteArray), ((forIn (bs.map fun b => Value.int .u8 (b.toNat : Int)) s fun c r => (do
      let .int .u8 n := c | stuck "bytesToString: byte expected"
      let s := r
      pure (ForInStep.yield (s.push (UInt8.ofNat n.toNat)))) : Sem ByteArray)).run P w = .ok ⟨s.data ++ bs.toArray⟩ w := by
  induction bs with
  | nil => intro s; simp
  | cons b bs ih =>
    intro s
    simp only [List.map_cons, List.forIn_cons, Sem.run_bind, Sem.run_pure, Result.andThen_ok]
    rw [ih]
    congr 1
    simp [ByteArray.push]

theorem bounds_sound {n most : Nat} {lo hi : Bool} {xs : List IV} {l h : Nat} (hb : boundsI n most lo hi xs = some (l, h)) {lo' hi' : Option Value} (hlo : lo = lo'.isSome) (hhi : hi = hi'.isSome) (hx : VRs ι xs (lo'.toList ++ hi'.toList)) (hnm : n ≤ most) :
    l ≤ h ∧ h ≤ most ∧ (hi = false → h = n) ∧ ∀ (cap : Nat) (isS : Bool), most ≤ cap → (Instr.sliceBounds isS n cap lo' hi' none).run P w = .ok (l, h, cap) w := by
  unfold boundsI at hb
  split at hb
  · cases hb
    cases lo' with
    | some _ => cases hlo
    | none => cases hi' with
      | some _ => cases hhi
      | none => exact ⟨Nat.zero_le _, hnm, fun _ => rfl, fun cap isS hc => by simp [Instr.sliceBounds]⟩
  · rename_i k l'
    obtain ⟨h1, h2⟩ := cond_some hb
    cases h2
    have h1 := Nat.le_of_ble_eq_true h1
    cases lo' with
    | none => cases hlo
    | some u => cases hi' with
      | some _ => cases hhi
      | none =>
        obtain ⟨y, e, g⟩ := vrs1 hx
        cases e
        have := vr_i g
        subst this
        refine ⟨h1, hnm, fun _ => rfl, fun cap isS hc => ?_⟩
        have h1' : (l : Int) ≤ n := by omega
        simp [Instr.sliceBounds, Instr.sliceBound, asIntOf, h1', h1]
  · rename_i k h'
    obtain ⟨h1, h2⟩ := cond_some hb
    cases h2
    have h1 := Nat.le_of_ble_eq_true h1
    cases lo' with
    | some _ => cases hlo
    | none => cases hi' with
      | none => cases hhi
      | some u =>
        obtain ⟨y, e, g⟩ := vrs1 hx
        cases e
        have := vr_i g
        subst this
        refine ⟨Nat.zero_le _, h1, fun c => (by cases c), fun cap isS hc => ?_⟩
        have h1' : (h : Int) ≤ cap := by omega
        have h1'' : h ≤ cap := by omega
        cases isS <;> simp [Instr.sliceBounds, Instr.sliceBound, asIntOf, h1', h1'']
  · rename_i k l' k' h'
    obtain ⟨h1, h2⟩ := cond_some hb
    cases h2
    simp only [Bool.and_eq_true] at h1
    have h2 := Nat.le_of_ble_eq_true h1.2
    have h1 := Nat.le_of_ble_eq_true h1.1
    cases lo' with
    | none => cases hlo
    | some u => cases hi' with
      | none => cases hhi
      | some u2 =>
        obtain ⟨y, y2, e, g, g2⟩ := vrs2 hx
        cases e
        have := vr_i g
        subst this
        have := vr_i g2
        subst this
        refine ⟨h2, h1, fun c => (by cases c), fun cap isS hc => ?_⟩
        have h1' : (h : Int) ≤ cap := by omega
        have h1'' : h ≤ cap := by omega
        have h2' : (l : Int) ≤ h := by omega
        cases isS <;> simp [Instr.sliceBounds, Instr.sliceBound, asIntOf, h1', h2', h1'', h2]
  · cases hb

variable (hT : TR ι τ a) (hH : HR ι H w)

theorem rd_convert (hT : TR ι τ a) (hH : HR ι H w) {o : Oper} {s d : TypeId} {x : Operand} {r : Rd} {xs : List Od} {v : IV} (ho : o.op = .convert s d x) (hc : compOp P o = some (.rd r xs)) (hv : r.ev (evs τ xs) H = some v) : RdOk P ι H w o a v := by
  unfold compOp at hc
  rw [ho] at hc
  simp only [] at hc
  split at hc
  · rename_i k1 k hs hd
    obtain ⟨y, hy, e⟩ := rd1_inv hc
    cases e
    have g := od_sound hT hy
    have hv' : evCvi k [y.ev τ] = some v := hv
    unfold evCvi at hv'
    split at hv'
    · rename_i j n e
      injection e with e _
      rw [e] at g
      cases hv'
      have hx := vr_i g
      rw [wrapI_eq]
      exact ⟨.int k (k.wrap n), by simp [execOp, ho, hx, convert, run_underlying hs, run_underlying hd, Conv.intToInt], .i _ _⟩
    · cases hv'
  · rename_i hs hd
    obtain ⟨y, hy, e⟩ := rd1_inv hc
    cases e
    have g := od_sound hT hy
    have hv' : evCvid [y.ev τ] = some v := hv
    unfold evCvid at hv'
    split at hv'
    · rename_i n e
      injection e with e _
      rw [e] at g
      cases hv'
      obtain ⟨bs, hb, hx⟩ := vr_s g
      exact ⟨.string bs, by simp [execOp, ho, hx, convert, run_underlying hs, run_underlying hd], .s _ _ hb⟩
    · cases hv'
  · rename_i e0 hs hd
    split at hc
    · rename_i hu
      obtain ⟨y, hy, e⟩ := rd1_inv hc
      cases e
      have g := od_sound hT hy
      have hv' : evCvbs H [y.ev τ] = some v := hv
      unfold evCvbs at hv'
      split at hv'
      · rename_i e
        injection e with e _
        rw [e] at g
        cases hv'
        have hx := vr_sn g
        exact ⟨.string .empty, by simp [execOp, ho, hx, convert, run_underlying hs, run_underlying hd, run_underlying hu, Conv.bytesToString], .s _ _ rfl⟩
      · rename_i b o' n c e
        injection e with e _
        rw [e] at g
        cases hn : Nat.beq n 0 with
        | true =>
          rw [hn] at hv'
          have := Nat.eq_of_beq_eq_true hn
          subst this
          cases hv'
          have : ∃ ad m, a.eval x = .slice (some ad) 0 m := by
            rcases vr_sl g with ⟨L, c', hL, _, _, _, hx⟩ | ⟨ad, hn, _, hx⟩
            · exact ⟨_, _, hx⟩
            · exact ⟨_, _, hx⟩
          obtain ⟨ad, m, hx⟩ := this
          refine ⟨.string .empty, ?_, .s _ _ rfl⟩
          simp [execOp, ho, hx, convert, run_underlying hs, run_underlying hd, run_underlying hu, Conv.bytesToString, loadCells, loadCellsFrom]
        | false =>
          rw [hn] at hv'
          simp only [cond_false] at hv'
          split at hv'
          · rename_i l hl
            split at hv'
            · rename_i st hst
              cases hv'
              rcases vr_sl g with ⟨L, c', hL, _, _, _, hx⟩ | ⟨ad, hn', _, hx⟩
              · obtain ⟨l', h1, h2, h3⟩ := read_sound (P := P) hH hl hL
                obtain ⟨bs, g1, rfl⟩ := bytesI_sound hst h1
                refine ⟨.string ⟨bs.toArray⟩, ?_, .s _ _ (by simpa using g1)⟩
                have hrun := run_bytes (P := P) (w := w) bs ByteArray.empty
                have e0 : (ByteArray.empty.data ++ bs.toArray) = bs.toArray := by show #[] ++ bs.toArray = _; simp
                rw [e0] at hrun
                simp only [execOp, ho, hx, convert, Sem.run_bind, run_underlying hs, run_underlying hd, run_underlying hu, Result.andThen_ok, Conv.bytesToString, h3, List.forIn_toArray]
                erw [hrun]
                rfl
              · subst hn'; cases hn
            · cases hv'
          · cases hv'
      · rename_i es e
        injection e with e _
        rw [e] at g
        obtain ⟨k1, k2⟩ := cond_some hv'
        have h1 : ∀ e ∈ es, e.length = 1 := fun e he => Nat.eq_of_beq_eq_true (List.all_eq_true.1 k1 e he)
        have hlen : ∀ (es : List (List IV)), (∀ e ∈ es, e.length = 1) → es.flatten.length = es.length := by
          intro es h
          induction es with
          | nil => rfl
          | cons u es ih =>
            rw [List.flatten_cons, List.length_append, ih (fun e he => h e (by simp [he])), h u (by simp), List.length_cons]; omega
        split at k2
        · rename_i st hst
          cases k2
          rcases vr_sli g with ⟨l0, rr, sh, d', z, c, q1, q2, q3, q4, hx⟩ | ⟨rfl, ad, c, hx⟩ | ⟨rfl, hx⟩
          · obtain ⟨l', p1, p2⟩ := im_read (P := P) hH q1 q2
            rw [hlen es h1] at p2
            obtain ⟨bs, g1, rfl⟩ := bytesI_sound hst p1
            refine ⟨.string ⟨bs.toArray⟩, ?_, .s _ _ (by simpa using g1)⟩
            have hrun := run_bytes (P := P) (w := w) bs ByteArray.empty
            have e0 : (ByteArray.empty.data ++ bs.toArray) = bs.toArray := by show #[] ++ bs.toArray = _; simp
            rw [e0] at hrun
            simp only [execOp, ho, hx, convert, Sem.run_bind, run_underlying hs, run_underlying hd, run_underlying hu, Result.andThen_ok, Conv.bytesToString, p2, List.forIn_toArray]
            erw [hrun]
            rfl
          · cases hst
            refine ⟨.string .empty, ?_, .s _ _ rfl⟩
            simp [execOp, ho, hx, convert, run_underlying hs, run_underlying hd, run_underlying hu, Conv.bytesToString, loadCells, loadCellsFrom]
          · cases hst
            exact ⟨.string .empty, by simp [execOp, ho, hx, convert, run_underlying hs, run_underlying hd, run_underlying hu, Conv.bytesToString], .s _ _ rfl⟩
        · cases k2
      · cases hv'
    · cases hc
  · cases hc
end
end Go.Fg
