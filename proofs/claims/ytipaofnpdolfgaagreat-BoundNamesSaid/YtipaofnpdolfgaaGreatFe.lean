/- The ideal machine with lists of outcomes, and loops over maps whose states recur: definitions. -/
import Derived.Test.YtipaofnpdolfgaaGreatFd
import Derived.Test.YtipaofnpdolfgaaGreatFc
set_option linter.unusedSectionVars false
set_option linter.unusedVariables false
namespace Go.Fg

/-- An iterator over a map: the map, the clock when it began, whom it gave, the clock at the last step. -/
structure It where
  m : Pos
  since : Nat
  seen : List Nat
  last : Nat
  ex : Bool   -- are all that it gave told by 'seen'?
abbrev Its := List (Pos × It)
noncomputable def getIt (p : Pos) : Its → Option It
  | [] => none
  | e :: r => cond (Pos.eq p e.1) (some e.2) (getIt p r)
noncomputable def setIt (p : Pos) (x : It) : Its → Its
  | [] => []
  | e :: r => cond (Pos.eq p e.1) ((p, x) :: setIt p x r) (e :: setIt p x r)
def hasN (n : Nat) : List Nat → Bool
  | [] => false
  | m :: r => cond (Nat.beq n m) true (hasN n r)
def leftI (es : List IEnt) (seen : List Nat) : List IEnt := es.filter fun e => !hasN e.born seen
def isNil {α : Type} : List α → Bool
  | [] => true
  | _ => false
/-- What may come next: none is the end. -/
def candsI (es : List IEnt) (since : Nat) (seen : List Nat) : List (Option IEnt) :=
  cond (isNil ((leftI es seen).filter fun e => Nat.blt e.born since)) [none] [] ++ (((leftI es seen).filter fun e => Nat.blt e.born since) ++ ((leftI es seen).filter fun e => Nat.ble since e.born)).map some

/-- Operations: those of the machine, and those with more than one outcome. -/
inductive TOp where
  | base (o : IOper)
  | call (d : Option Pos) (f : Od) (xs : List Od)
  | range (d : Option Pos) (x : Od)
  | next (d : Option Pos) (x : Od)
  | entry (d : Option Pos) (x : Od)
  | bnd (d : Option Pos) (n : Nat) (xs : List Od)
inductive TCode where
  | skip
  | ops (l : List TOp)
  | draw (l : List (TOp × List Nat))
  | seq (a b : TCode)
  | cond (c : Od) (a b : TCode)
  | block (id : Nat) (b : TCode)
  | loop (b : TCode)
  | exit (id : Nat)
  | ret
  | bad
structure TSt where
  τ : Fm
  h : Hp
  its : Its
inductive TOut where
  | nrm (s : TSt)
  | ret (s : TSt)
  | exit (id : Nat) (s : TSt)

abbrev CallT := Pos → List IV → Hp → Option (List (IV × Hp))

/-- All of them, one behind the other; none if one fails. -/
def bindAll {α β : Type} (f : α → Option (List β)) : List α → Option (List β)
  | [] => some []
  | x :: r => match f x, bindAll f r with
    | some a, some b => some (a ++ b)
    | _, _ => none
noncomputable def TSt.put (s : TSt) (d : Option Pos) (v : IV) (h : Hp) : TSt := ⟨putd s.τ d v, h, s.its⟩
noncomputable def callV (cf : CallT) (f : IV) (xs : List IV) (h : Hp) : Option (List (IV × Hp)) := match f with
  | .f g caps => cf g (xs ++ caps) h
  | .ic n (.tup l) => cond (Nat.ble 1000000 n) (cf (pos (n - 1000000)) (l ++ xs) h) none
  | _ => none
def nextOk (it : It) (es : List IEnt) : Bool := isNil it.seen || isNil es || !(es.all fun e => Nat.ble it.last e.born)
def stepIt (it : It) (clock : Nat) (b : Nat) : It := ⟨it.m, it.since, it.seen ++ [b], clock, it.ex⟩
noncomputable def nextT (s : TSt) (d : Option Pos) (p : Pos) (it : It) (c : Nat) : Option IEnt → TSt
  | none => s.put d (.tup [.b false]) s.h
  | some e => ⟨putd s.τ d (.tup [.b true, e.key, e.val]), s.h, setIt p (stepIt it c e.born) s.its⟩
noncomputable def stepT (cf : CallT) (s : TSt) : TOp → Option (List TSt)
  | .base o => match exOpz (fun _ _ _ => none) o s.τ s.h with
    | some (v, h) => some [s.put o.dst v h]
    | none => none
  | .call d f xs => match callV cf (f.ev s.τ) (evs s.τ xs) s.h with
    | some L => some (L.map fun r => s.put d r.1 r.2)
    | none => none
  | .range d x => match x.ev s.τ with
    | .m b => match mapOf (s.h.get b) with
      | some (_, c) => some [⟨putd s.τ d (.p s.h.next 0), ⟨s.h.t, s.h.next.nxt⟩, (s.h.next, ⟨b, c, [], c, true⟩) :: s.its⟩]
      | none => none
    | _ => none
  | .next d x => match x.ev s.τ with
    | .p p 0 => match getIt p s.its with
      | some it => match mapOf (s.h.get it.m) with
        | some (es, c) => cond (cond it.ex (nextOk it es) false) (some ((candsI es it.since it.seen).map (nextT s d p it c))) none
        | none => none
      | none => none
    | _ => none
  | .entry d x => match x.ev s.τ with
    | .p p 0 => match getIt p s.its with
      | some it => match mapOf (s.h.get it.m), it.seen.getLast? with
        | some (es, c), some st => cond (Nat.beq c it.last) (match es.find? (fun e => e.born == st) with
            | some e => some [s.put d (.tup [e.key, e.val]) s.h]
            | none => none) none
        | _, _ => none
      | none => none
    | _ => none
  | .bnd d n xs => some [s.put d (.ic (n + 1000000) (.tup (evs s.τ xs))) s.h]
noncomputable def opsT (cf : CallT) : List TOp → TSt → Option (List TSt)
  | [], s => some [s]
  | o :: r, s => match stepT cf s o with
    | some L => bindAll (opsT cf r) L
    | none => none
/-- Which operations may be next. -/
def subN (l done : List Nat) : Bool := l.all fun n => hasN n done
def readyT (done : List Nat) : Nat → List (TOp × List Nat) → List (Nat × TOp)
  | _, [] => []
  | i, x :: r => cond (!(hasN i done) && subN x.2 done) ((i, x.1) :: readyT done (i + 1) r) (readyT done (i + 1) r)
noncomputable def anyT (cf : CallT) (l : List (TOp × List Nat)) : Nat → List Nat → TSt → Option (List TSt)
  | 0, done, s => cond (isNil (readyT done 0 l)) (some [s]) none
  | n + 1, done, s => cond (isNil (readyT done 0 l)) (some [s]) (bindAll (fun (x : Nat × TOp) => match stepT cf s x.2 with
    | some L => bindAll (anyT cf l n (x.1 :: done)) L
    | none => none) (readyT done 0 l))
def thenT (k : TSt → Option (List TOut)) : TOut → Option (List TOut)
  | .nrm s => k s
  | o => some [o]
def blockT (id : Nat) : TOut → TOut
  | .exit k s => cond (Nat.beq k id) (.nrm s) (.exit k s)
  | o => o
def seqT (x : Option (List TOut)) (k : TSt → Option (List TOut)) : Option (List TOut) := match x with
  | some L => bindAll (thenT k) L
  | none => none
def loopT (body : TSt → Option (List TOut)) : Nat → TSt → Option (List TOut)
  | 0, _ => none
  | n + 1, s => seqT (body s) (loopT body n)
noncomputable def semT (N : Nat) (cf : CallT) : TCode → TSt → Option (List TOut)
  | .skip, s => some [.nrm s]
  | .ops l, s => match opsT cf l s with
    | some L => some (L.map .nrm)
    | none => none
  | .draw l, s => match anyT cf l l.length [] s with
    | some L => some (L.map .nrm)
    | none => none
  | .seq a b, s => seqT (semT N cf a s) (semT N cf b)
  | .cond c a b, s => match c.ev s.τ with
    | .b true => semT N cf a s
    | .b false => semT N cf b s
    | _ => none
  | .block id b, s => match semT N cf b s with
    | some L => some (L.map (blockT id))
    | none => none
  | .loop b, s => loopT (semT N cf b) N s
  | .exit id, s => some [.exit id s]
  | .ret, s => some [.ret s]
  | .bad, _ => none

/-! From the model's code. -/
section
variable (P : Program)
noncomputable def badT : TOp := .base ⟨none, .bad, none, 0, false⟩
def dstT (nt : Nat) (d : Option Nat) : Option (Option Pos) := match d with
  | none => some none
  | some t => cond (Nat.blt t nt) (some (some (pos t))) none
noncomputable def compT (nt : Nat) (o : Oper) : TOp := match o.guard, dstT nt o.dst with
  | none, some d => match o.op with
    | .range t x => match P.underlying t, od x with
      | some (.map _ _), some a => .range d a
      | _, _ => badT
    | .next x false => match od x with
      | some a => .next d a
      | none => badT
    | .entry x => match od x with
      | some a => .entry d a
      | none => badT
    | .makeFunc (.func n) first captured => cond (Nat.blt n 1000000) (match captured.toList, first.toList with
      | [], y :: l => match ods (y :: l) with
        | some xs => .bnd d n xs
        | none => badT
      | _, _ => .base ⟨d, (compOp P o).getD .bad, none, 0, false⟩) badT
    | .call _ => match compOp P o with
      | some (.call f xs) => .call d f xs
      | some io => .base ⟨d, io, none, 0, false⟩
      | none => badT
    | _ => .base ⟨d, (compOp P o).getD .bad, none, 0, false⟩
  | _, _ => badT
noncomputable def compTC (nt : Nat) : Code → TCode
  | .skip => .skip
  | .region _ ops false => .ops (ops.toList.map (compT P nt))
  | .region _ ops true => .draw (ops.toList.map fun o => (compT P nt o, (o.after.toList.filter (Region.binds .any)).map (·.on)))
  | .seq a b => .seq (compTC nt a) (compTC nt b)
  | .cond c a b => match od c with
    | some x => .cond x (compTC nt a) (compTC nt b)
    | none => .bad
  | .block id b => .block id (compTC nt b)
  | .loop b => .loop (compTC nt b)
  | .exit id => .exit id
  | .ret => .ret
  | _ => .bad
structure TFn where
  res : List IRes
  body : TCode
noncomputable def compTFn (f : Nat) : Option TFn := match P.funcs[f]? with
  | some fn => match fn.body, compRes P fn.results.toList with
    | some c, some rs => if fn.ntmps ≤ 100000 ∧ fn.name ≠ "runtime.NumGoroutine" then some ⟨rs, compTC P fn.ntmps c⟩ else none
    | _, _ => none
  | none => none
end
noncomputable def leaveT (rs : List IRes) : TOut → Option (List (IV × Hp))
  | .nrm s | .ret s => match resultsI s.τ s.h rs with
    | some vs => some [(oneOf vs, s.h)]
    | none => none
  | .exit _ _ => none
noncomputable def callFnT (N : Nat) (cf : CallT) (fn : TFn) (args : List IV) (h : Hp) : Option (List (IV × Hp)) := match semT N cf fn.body ⟨frameOf args .h .nil, h, []⟩ with
  | some L => bindAll (leaveT fn.res) L
  | none => none
/-- Calls: the functions of T, by lists of outcomes; the others as cf says. -/
noncomputable def callNT (cf : CallF) (T : Pos → Option TFn) (N : Nat) : Nat → CallT
  | 0 => fun _ _ _ => none
  | n + 1 => fun f args h => match T f with
    | some fn => callFnT N (callNT cf T N n) fn args h
    | none => match cf f args h with
      | some r => some [r]
      | none => none
end Go.Fg
/- The ideal machine with lists of outcomes: one operation. -/
namespace Go.Fg

def FullF (ι : Emb) (H : Hp) : Prop := ∀ b : Pos, H.next.num ≤ b.num → ι b = none
theorem FullF.free {ι : Emb} {H : Hp} (h : FullF ι H) (H' : Hp) : Free ι H H' := fun b k _ => h b k
theorem FullF.fin {ι ι' : Emb} {H H' : Hp} {w w' : World} (h : FullF ι H) (F : Fin ι H w ι' H' w') : FullF ι' H' := fun b k => by
  cases q : ι' b with
  | none => rfl
  | some L =>
    have := F.fresh b (h b (Nat.le_trans F.up k)) (by simp [q])
    omega

structure ItsOk (pre : Pos → List Nat) (ι : Emb) (its : Its) (w : World) (base : Nat) : Prop where
  ok : ∀ p it, getIt p its = some it → ∃ L Lb, ι p = some L ∧ L.sh = 0 ∧ base ≤ L.r ∧ ι it.m = some Lb ∧ w.heap[L.r]? = some (.mapIter (some Lb.r) it.since ((cond it.ex [] (pre p)) ++ it.seen).toArray it.last)
  inj : ∀ p q it jt L M, getIt p its = some it → getIt q its = some jt → ι p = some L → ι q = some M → L.r = M.r → p = q
theorem iter_apart {ι : Emb} {H : Hp} {w : World} (hH : HR ι H w) {r : Nat} {m : Option Nat} {s l : Nat} {sn : Array Nat} (h : w.heap[r]? = some (.mapIter m s sn l)) : ∀ b L, ι b = some L → H.get b ≠ none → L.r ≠ r := fun b L hL hb e => by
  cases q : H.get b with
  | none => exact hb q
  | some x =>
    have := hH.blk b x L q hL
    subst e
    cases x with
    | cells n l => obtain ⟨_, _, c, e, lo, hi, k, _⟩ := this; rw [h] at k; cases k
    | map es c => obtain ⟨es', k, _⟩ := this; rw [h] at k; cases k
    | rc n l => obtain ⟨_, _, c, e, lo, hi, k, _⟩ := this; rw [h] at k; cases k
    | rm es c => obtain ⟨es', k, _⟩ := this; rw [h] at k; cases k
theorem iter_im {ι : Emb} {H : Hp} {w : World} (hH : HR ι H w) {r : Nat} {m : Option Nat} {s l : Nat} {sn : Array Nat} (h : w.heap[r]? = some (.mapIter m s sn l)) : ∀ x k sh, ι.im x k sh → k ≠ r := fun x k sh hx e => by
  have := hH.pro x k sh hx
  subst e
  cases x with
  | c l => obtain ⟨c, e, fr, k, _⟩ := this; rw [h] at k; cases k
  | m ks vs => obtain ⟨es', c, k, _⟩ := this; rw [h] at k; cases k
theorem ItsOk.fin {pre : Pos → List Nat} {ι ι' : Emb} {H H' : Hp} {w w' : World} {its : Its} {base : Nat} (I : ItsOk pre ι its w base) (hH : HR ι H w) (F : Fin ι H w ι' H' w') : ItsOk pre ι' its w' base where
  ok p it h := by
    obtain ⟨L, Lb, h1, h2, h3, h4, h5⟩ := I.ok p it h
    exact ⟨L, Lb, F.ext.1 _ _ h1, h2, h3, F.ext.1 _ _ h4, by rw [F.frame L.r (Array.getElem?_eq_some_iff.1 h5).1 (iter_apart hH h5)]; exact h5⟩
  inj p q it jt L M hp hq hL hM e := by
    obtain ⟨L', _, h1, _⟩ := I.ok p it hp
    obtain ⟨M', _, k1, _⟩ := I.ok q jt hq
    have a := F.ext.1 _ _ h1
    have b := F.ext.1 _ _ k1
    rw [hL] at a; rw [hM] at b
    cases a; cases b
    exact I.inj p q it jt _ _ hp hq h1 k1 e

structure TS (pre : Pos → List Nat) (nt : Nat) (ι0 : Emb) (H0 : Hp) (w0 : World) (ι : Emb) (s : TSt) (a : Act) (w : World) : Prop where
  st : St nt ι s.τ s.h a w
  fin : Fin ι0 H0 w0 ι s.h w
  full : FullF ι s.h
  base : FullF ι0 H0
  its : ItsOk pre ι s.its w w0.heap.size

section
variable {P : Program} {pre : Pos → List Nat} {nt : Nat} {ι0 ι : Emb} {H0 : Hp} {w0 w : World} {s : TSt} {a : Act}

theorem TS.put (T : TS pre nt ι0 H0 w0 ι s a w) (hnt : nt ≤ 100000) {ι' : Emb} {h' : Hp} {w' : World} (F : Fin ι s.h w ι' h' w') {dst : Option Nat} (hd : ∀ d, dst = some d → d < nt) {v : IV} {v' : Value} (hv : VR ι' v v') : TS pre nt ι0 H0 w0 ι' (s.put (dst.map pos) v h') (a.put dst v') w' where
  st := T.st.fin F hd hnt hv
  fin := T.fin.trans F
  full := T.full.fin F
  base := T.base
  its := T.its.fin T.st.hr F

/-- An iterator's object changes. -/
theorem Fin.touch {ι0 ι : Emb} {H0 H : Hp} {w0 w w' : World} (F : Fin ι0 H0 w0 ι H w) {r : Nat} {m : Option Nat} {x l : Nat} {sn : Array Nat} (h : w.heap[r]? = some (.mapIter m x sn l)) (hr : w0.heap.size ≤ r) {y : Obj} (hw : w'.heap = w.heap.setIfInBounds r y) (ho : sameOut w w') : Fin ι0 H0 w0 ι H w' := by
  have ap := iter_apart F.hr h
  have im := iter_im F.hr h
  have sz : w'.heap.size = w.heap.size := by rw [hw]; simp
  have ne : ∀ k, k ≠ r → w'.heap[k]? = w.heap[k]? := fun k hk => by rw [hw, Array.getElem?_setIfInBounds_ne (Ne.symm hk)]
  exact {
    ext := F.ext
    fresh := F.fresh
    hr := {
      pro := fun z k sh hz => (F.hr.pro z k sh hz).mono (Emb.le.refl _) (ne k (im z k sh hz))
      apart := F.hr.apart
      blk := fun b z L hb hL => (F.hr.blk b z L hb hL).mono (Emb.le.refl _) (ne _ (ap b L hL (by rw [hb]; simp)))
      inj := F.hr.inj
      lt := fun b L hL => by rw [sz]; exact F.hr.lt b L hL
      low := F.hr.low }
    up := F.up
    size := by rw [sz]; exact F.size
    frame := fun k hk hc => by rw [ne k (by omega)]; exact F.frame k hk hc
    cover := F.cover
    icov := F.icov
    still := F.still
    out := F.out.trans ho }
/-- A new iterator. -/
theorem Fin.iter {ι0 ι : Emb} {H0 H : Hp} {w0 w w' : World} (F : Fin ι0 H0 w0 ι H w) (full : FullF ι H) {y : Obj} (hw : w'.heap = w.heap.push y) (ho : sameOut w w') : Fin ι0 H0 w0 (ι.upd H.next ⟨w.heap.size, 0, 0⟩) ⟨H.t, H.next.nxt⟩ w' := by
  have hn : ι H.next = none := full _ (Nat.le_refl _)
  have le := Emb.le_upd ⟨w.heap.size, 0, 0⟩ hn
  have hget : ∀ k, k < w.heap.size → w'.heap[k]? = w.heap[k]? := fun k hk => by rw [hw, Array.getElem?_push_lt hk]; simp [hk]
  have dead : H.get H.next = none := by
    cases h : H.get H.next with
    | none => rfl
    | some z => exact absurd (F.hr.low H.next (by simp [h])) (Nat.lt_irrefl _)
  have gg : ∀ b, Hp.get ⟨H.t, H.next.nxt⟩ b = H.get b := fun b => rfl
  have was : ∀ b L, (ι.upd H.next ⟨w.heap.size, 0, 0⟩) b = some L → H.get b ≠ none → ι b = some L := fun b L hb hl => by
    by_cases e : b = H.next
    · subst e; exact absurd dead hl
    · rwa [Emb.upd_ne _ _ e] at hb
  exact {
    ext := F.ext.trans le
    fresh := fun b h1 h2 => by
      by_cases e : b = H.next
      · subst e; refine ⟨F.up, ?_⟩; show H.next.num < H.next.nxt.num; rw [Pos.num_nxt]; omega
      · rw [Emb.upd_ne _ _ e] at h2
        have := F.fresh b h1 h2
        refine ⟨this.1, ?_⟩; show b.num < H.next.nxt.num; rw [Pos.num_nxt]; omega
    hr := {
      pro := fun z k sh hz => (F.hr.pro z k sh hz).mono le.bare (hget k (F.hr.pro z k sh hz).lt)
      apart := fun b z L y' k sh hb hl hL hz => F.hr.apart b z L y' k sh hb hl (was b L hL (by rw [← gg, hb]; simp)) hz
      blk := fun b z L hb hL => (F.hr.blk b z L hb (was b L hL (by rw [← gg, hb]; simp))).mono le (hget _ (F.hr.lt b L (was b L hL (by rw [← gg, hb]; simp))))
      inj := fun b c L M h1 h2 k1 k2 e => F.hr.inj b c L M h1 h2 (was b L k1 h1) (was c M k2 h2) e
      lt := fun b L hL => by
        have sz : w'.heap.size = w.heap.size + 1 := by rw [hw]; simp
        by_cases e : b = H.next
        · subst e; rw [Emb.upd_eq] at hL; cases hL; show w.heap.size < _; omega
        · rw [Emb.upd_ne _ _ e] at hL; have := F.hr.lt b L hL; omega
      low := fun b hb => by have := F.hr.low b hb; show b.num < H.next.nxt.num; rw [Pos.num_nxt]; omega }
    up := by have := F.up; show _ ≤ H.next.nxt.num; rw [Pos.num_nxt]; omega
    size := by have := F.size; rw [hw]; simp; omega
    frame := fun k hk hc => by rw [hget k (Nat.lt_of_lt_of_le hk F.size)]; exact F.frame k hk hc
    cover := fun b L e1 e2 hr => F.cover b L (was b L e1 e2) e2 hr
    icov := F.icov
    still := fun b hb hn => F.still b hb hn
    out := F.out.trans ho }

theorem Pos.eq_no {p q : Pos} (h : p ≠ q) : Pos.eq p q = false := by
  cases c : Pos.eq p q with
  | true => exact absurd (Pos.eq_true c) h
  | false => rfl
theorem getIt_set (p q : Pos) (x : It) : ∀ l : Its, getIt q (setIt p x l) = if q = p then (getIt p l).map (fun _ => x) else getIt q l
  | [] => by simp [getIt, setIt]
  | e :: r => by
    have ih := getIt_set p q x r
    show getIt q (cond (Pos.eq p e.1) ((p, x) :: setIt p x r) (e :: setIt p x r)) = if q = p then (cond (Pos.eq p e.1) (some e.2) (getIt p r)).map (fun _ => x) else cond (Pos.eq q e.1) (some e.2) (getIt q r)
    by_cases c : p = e.1
    · rw [← c, Pos.eq_self]
      show cond (Pos.eq q p) (some x) (getIt q (setIt p x r)) = _
      by_cases d : q = p
      · rw [d, Pos.eq_self, if_pos rfl]; rfl
      · rw [Pos.eq_no d, if_neg d]; rw [if_neg d] at ih; exact ih
    · rw [Pos.eq_no c]
      show cond (Pos.eq q e.1) (some e.2) (getIt q (setIt p x r)) = _
      by_cases d : q = p
      · subst d; rw [Pos.eq_no c, if_pos rfl]; rw [if_pos rfl] at ih; exact ih
      · rw [if_neg d]; rw [if_neg d] at ih; rw [ih]
theorem ers_mem {ι : Emb} : ∀ {es : List IEnt} {es' : List MapEntry}, ERs ι es es' → ∀ {e'}, e' ∈ es' → ∃ e ∈ es, VR ι e.key e'.key ∧ VR ι e.val e'.val ∧ e.born = e'.born
  | _, _, .nil, _, h => by cases h
  | _, _, .cons x y xs ys hk hv hb t, e', h => by
    rcases List.mem_cons.1 h with rfl | h
    · exact ⟨x, List.mem_cons_self .., hk, hv, hb⟩
    · obtain ⟨e, h1, h2⟩ := ers_mem t h; exact ⟨e, List.mem_cons_of_mem _ h1, h2⟩
theorem ers_mem' {ι : Emb} : ∀ {es : List IEnt} {es' : List MapEntry}, ERs ι es es' → ∀ {e}, e ∈ es → ∃ e' ∈ es', e.born = e'.born
  | _, _, .nil, _, h => by cases h
  | _, _, .cons x y xs ys hk hv hb t, e, h => by
    rcases List.mem_cons.1 h with rfl | h
    · exact ⟨y, List.mem_cons_self .., hb⟩
    · obtain ⟨e, h1, h2⟩ := ers_mem' t h; exact ⟨e, List.mem_cons_of_mem _ h1, h2⟩
theorem ers_find {ι : Emb} {st : Nat} : ∀ {es : List IEnt} {es' : List MapEntry}, ERs ι es es' → ∀ {e}, es.find? (fun e => e.born == st) = some e → ∃ e', es'.find? (fun e => e.born == st) = some e' ∧ VR ι e.key e'.key ∧ VR ι e.val e'.val
  | _, _, .nil, _, h => by cases h
  | _, _, .cons x y xs ys hk hv hb t, e, h => by
    rw [List.find?_cons] at h ⊢
    rw [← hb]
    cases c : x.born == st with
    | true => rw [c] at h; cases h; exact ⟨y, rfl, hk, hv⟩
    | false => rw [c] at h; exact ers_find t h
theorem hasN_iff {n : Nat} : ∀ {l : List Nat}, hasN n l = true ↔ n ∈ l
  | [] => by simp [hasN]
  | m :: r => by
    show cond (Nat.beq n m) true (hasN n r) = true ↔ _
    rw [List.mem_cons, ← hasN_iff (n := n) (l := r)]
    by_cases c : n = m
    · subst c; simp
    · rw [beq_no c]; simp [c]
theorem isNil_iff {α : Type} {l : List α} : isNil l = true ↔ l = [] := by cases l <;> simp [isNil]
end
end Go.Fg
/- The ideal machine with lists of outcomes: operations in their order. -/
namespace Go.Fg
section
variable {P : Program} {pre : Pos → List Nat} {cf : CallT} {nt : Nat} {ι0 ι : Emb} {H0 : Hp} {w0 w : World} {s : TSt} {a : Act}

theorem mem_cands {ι : Emb} {es : List IEnt} {es' : Array MapEntry} (h : ERs ι es es'.toList) {since : Nat} {seen : List Nat} {i : Nat} {y : Option MapEntry} (hy : (candsM es' since seen.toArray)[i]? = some y) :
    match y with
    | none => none ∈ candsI es since seen
    | some e' => ∃ e, some e ∈ candsI es since seen ∧ VR ι e.key e'.key ∧ VR ι e.val e'.val ∧ e.born = e'.born := by
  have hm := Array.mem_of_getElem? hy
  unfold candsM at hm
  rw [Array.mem_append] at hm
  cases y with
  | none =>
    show none ∈ candsI es since seen
    rcases hm with hm | hm
    · split at hm
      · rename_i c
        have hn : ((leftI es seen).filter fun e => Nat.blt e.born since) = [] := by
          rw [List.eq_nil_iff_forall_not_mem]
          intro e he
          rw [List.mem_filter] at he
          obtain ⟨h1, h2⟩ := he
          unfold leftI at h1
          rw [List.mem_filter] at h1
          obtain ⟨e', k1, k2⟩ := ers_mem' h h1.1
          have : e' ∈ (leftM es' seen.toArray).filter (fun x => decide (x.born < since)) := by
            rw [Array.mem_filter]
            refine ⟨?_, by rw [← k2]; exact decide_eq_true (Nat.le_of_ble_eq_true h2)⟩
            unfold leftM
            rw [Array.mem_filter]
            refine ⟨by simpa using k1, ?_⟩
            have h3 := h1.2
            rw [← k2]
            simp only [Bool.not_eq_true'] at h3 ⊢
            cases c : seen.toArray.contains e.born with
            | false => rfl
            | true =>
              have : e.born ∈ seen := by simpa using c
              rw [hasN_iff.2 this] at h3; cases h3
          have c' : (leftM es' seen.toArray).filter (fun x => decide (x.born < since)) = #[] := by simpa [Array.isEmpty] using c
          rw [c'] at this
          simp at this
        unfold candsI
        rw [hn]
        simp [isNil]
      · simp at hm
    · simp at hm
  | some e' =>
    show ∃ e, some e ∈ candsI es since seen ∧ _
    have hm : e' ∈ leftM es' seen.toArray := by
      rcases hm with hm | hm
      · split at hm <;> simp at hm
      · simp only [Array.mem_map, Array.mem_append, Array.mem_filter, Option.some.injEq, exists_eq_right] at hm
        rcases hm with hm | hm
        · exact hm.1
        · exact hm.1
    unfold leftM at hm
    rw [Array.mem_filter] at hm
    obtain ⟨e, h1, h2, h3, h4⟩ := ers_mem h (show e' ∈ es'.toList by simpa using hm.1)
    refine ⟨e, ?_, h2, h3, h4⟩
    have hl : e ∈ leftI es seen := by
      unfold leftI
      rw [List.mem_filter]
      refine ⟨h1, ?_⟩
      have := hm.2
      rw [← h4] at this
      cases c : hasN e.born seen with
      | false => rfl
      | true => rw [hasN_iff] at c; simp [c] at this
    unfold candsI
    rw [List.mem_append]
    refine .inr (List.mem_map.2 ⟨e, ?_, rfl⟩)
    rw [List.mem_append, List.mem_filter, List.mem_filter]
    by_cases c : e.born < since
    · exact .inl ⟨hl, by show Nat.ble (e.born + 1) since = true; exact Nat.ble_eq_true_of_le c⟩
    · exact .inr ⟨hl, Nat.ble_eq_true_of_le (by omega)⟩
theorem next_ok {ι : Emb} {es : List IEnt} {es' : Array MapEntry} (h : ERs ι es es'.toList) {it : It} (hn : nextOk it es = true) : (!it.seen.toArray.isEmpty && !es'.isEmpty && es'.all (fun e => decide (e.born ≥ it.last))) = false := by
  unfold nextOk at hn
  rw [Bool.or_eq_true, Bool.or_eq_true] at hn
  rcases hn with (hn | hn) | hn
  · rw [isNil_iff.1 hn]; rfl
  · rw [isNil_iff.1 hn] at h
    have : es' = #[] := by
      have := h.length
      simpa using this
    subst this; simp
  · simp only [Bool.not_eq_true', List.all_eq_false] at hn
    obtain ⟨e, h1, h2⟩ := hn
    obtain ⟨e', k1, k2⟩ := ers_mem' h h1
    rw [Bool.and_eq_false_iff]
    refine .inr ?_
    rw [Array.all_eq_false]
    obtain ⟨i, hi, he⟩ := Array.mem_iff_getElem.1 (show e' ∈ es' by simpa using k1)
    refine ⟨i, hi, ?_⟩
    rw [he, ← k2]
    intro c
    exact h2 (Nat.ble_eq_true_of_le (by simpa using c))

/-- What answers with a list of outcomes does what the model does. -/
def CSimT (P : Program) (cf : CallT) : Prop := ∀ n args h L, n < 1000000 → cf (pos n) args h = some L →
  (∃ fn, P.funcs[n]? = some fn ∧ fn.body.isNone = false ∧ (fn.name == "runtime.NumGoroutine") = false) ∧
  ∀ (ι : Emb) (w : World) (args' : Array Value), VRs ι args args'.toList → HR ι h w → FullF ι h →
    Calls P n args' w fun e w' => ∃ r ∈ L, ∃ v' ι', e = .returned v' ∧ VR ι' r.1 v' ∧ Fin ι h w ι' r.2 w'

theorem csim_none : CSim P (fun _ _ _ => none) := fun _ _ _ _ _ _ e => by cases e
theorem dstT_some {d : Option Nat} {x : Option Pos} (h : dstT nt d = some x) : x = d.map pos ∧ ∀ t, d = some t → t < nt := by
  unfold dstT at h
  cases d with
  | none => cases h; exact ⟨rfl, fun t e => by cases e⟩
  | some t =>
    obtain ⟨c, e⟩ := cond_some h
    cases e
    exact ⟨rfl, fun t' e => by cases e; exact Nat.le_of_ble_eq_true c⟩
theorem exOpz_badT {cf : CallF} {d : Option Pos} {g : Option (Pos × Bool)} {b : Nat} {τ : Fm} {h : Hp} : exOpz cf ⟨d, .bad, g, b, false⟩ τ h = none := rfl

/-- An operation of the machine. -/
theorem base_step (hnt : nt ≤ 100000) (T : TS pre nt ι0 H0 w0 ι s a w) {o : Oper} {d : Option Pos} (hd : dstT nt o.dst = some d) {L : List TSt} (e : stepT cf s (.base ⟨d, (compOp P o).getD .bad, none, 0, false⟩) = some L)
    {K : Act → World → Prop} {Q : Exit → Act → World → Prop} (hK : ∀ s' ∈ L, ∀ ι' a' w', TS pre nt ι0 H0 w0 ι' s' a' w' → K a' w') : o.wp P a w K Q := by
  obtain ⟨rfl, h2⟩ := dstT_some hd
  unfold stepT at e
  simp only [] at e
  split at e
  · rename_i v h' hv
    cases e
    cases hc : compOp P o with
    | none => rw [hc] at hv; cases hv
    | some io =>
      rw [hc] at hv
      exact op_step (cf := fun _ _ _ => none) csim_none T.st.tr T.st.hr hc hv (T.full.free _) fun v' w' ι' k1 k2 => hK _ (List.mem_singleton.2 rfl) _ _ _ (T.put hnt k2 h2 k1)
  · cases e
theorem callV_inv {f : IV} {xs : List IV} {h : Hp} {L : List (IV × Hp)} (e : callV cf f xs h = some L) : (∃ g caps, f = .f g caps ∧ cf g (xs ++ caps) h = some L) ∨ ∃ n l, f = .ic (n + 1000000) (.tup l) ∧ cf (pos n) (l ++ xs) h = some L := by
  unfold callV at e
  split at e
  · exact .inl ⟨_, _, rfl, e⟩
  · rename_i n l
    obtain ⟨c, e⟩ := cond_some e
    have c := Nat.le_of_ble_eq_true c
    exact .inr ⟨n - 1000000, l, by rw [Nat.sub_add_cancel c], e⟩
  · cases e
/-- A call. -/
theorem call_step (hcf : CSimT P cf) (hnt : nt ≤ 100000) (T : TS pre nt ι0 H0 w0 ι s a w) {o : Oper} {d : Option Pos} (hd : dstT nt o.dst = some d) {f : Od} {xs : List Od} (hc : compOp P o = some (.call f xs)) {L : List TSt} (e : stepT cf s (.call d f xs) = some L)
    {K : Act → World → Prop} {Q : Exit → Act → World → Prop} (hK : ∀ s' ∈ L, ∀ ι' a' w', TS pre nt ι0 H0 w0 ι' s' a' w' → K a' w') : o.wp P a w K Q := by
  obtain ⟨rfl, h2⟩ := dstT_some hd
  unfold stepT at e
  simp only [] at e
  split at e
  case h_2 => cases e
  rename_i L0 hv
  cases e
  obtain ⟨c, fo, ho, hcal, hf, hxs⟩ := op_step.comp_call hc
  have r1 := od_sound T.st.tr hf
  have r2 := ods_sound T.st.tr hxs
  have fin : ∀ (n : Nat) (args' : Array Value), (Calls P n args' w fun e w' => ∃ r ∈ L0, ∃ v' ι', e = .returned v' ∧ VR ι' r.1 v' ∧ Fin ι s.h w ι' r.2 w') → (execOp a.eval o).run P w = .ok (.enter n args') w → o.wp P a w K Q := fun n args' hcl hrun => by
    unfold Oper.wp
    rw [hrun, Oper.upon_enter]
    refine hcl.mono ?_
    rintro e w' ⟨r, hr, v', ι', rfl, k1, k2⟩
    exact hK _ (List.mem_map.2 ⟨r, hr, rfl⟩) _ _ _ (T.put hnt k2 h2 k1)
  rcases callV_inv hv with ⟨g, caps, hg, hv⟩ | ⟨n, l, hg, hv⟩
  · rw [hg] at r1
    generalize hfo : a.eval fo = fv at r1
    cases r1
    rename_i n hn caps' hcaps
    obtain ⟨⟨fn, p1, p2, p3⟩, p4⟩ := hcf n _ _ _ hn hv
    refine fin n (c.args.map a.eval ++ caps') (p4 ι w _ (by rw [Array.toList_append, Array.toList_map]; exact r2.append hcaps) T.st.hr T.full) ?_
    unfold execOp
    simp [ho, resolve, hcal, hfo, Deferred.ofValue, invoke, run_callFunc p1 p2 p3]
  · rw [hg] at r1
    generalize hfo : a.eval fo = fv at r1
    generalize hq : n + 1000000 = q at r1
    cases r1 with
    | ic _ ht v h => omega
    | fb k hk _ l' hl =>
      have hk' : k = n := by omega
      subst hk'
      obtain ⟨⟨fn, p1, p2, p3⟩, p4⟩ := hcf k _ _ _ hk hv
      refine fin k (l' ++ c.args.map a.eval) (p4 ι w _ (by rw [Array.toList_append, Array.toList_map]; exact hl.append r2) T.st.hr T.full) ?_
      unfold execOp
      simp [ho, resolve, hcal, hfo, Deferred.ofValue, invoke, run_callFunc p1 p2 p3]
end
end Go.Fg
/- The ideal machine with lists of outcomes: iterators. -/
namespace Go.Fg
section
variable {P : Program} {pre : Pos → List Nat} {cf : CallT} {nt : Nat} {ι0 ι : Emb} {H0 : Hp} {w0 w : World} {s : TSt} {a : Act}

theorem TR.put' {ι : Emb} {τ : Fm} {a : Act} (h : TR ι τ a) (hs : nt ≤ a.tmps.size) (hnt : nt ≤ 100000) {d : Option Nat} (hd : ∀ t, d = some t → t < nt) {v : IV} {v' : Value} (hv : VR ι v v') : TR ι (putd τ (d.map pos) v) (a.put d v') := by
  cases d with
  | none => exact h
  | some d => have := hd d rfl; exact h.put (by omega) (by omega) hv
theorem St.put' {ι ι' : Emb} {τ : Fm} {H H' : Hp} {w w' : World} (h : St nt ι τ H a w) (hnt : nt ≤ 100000) (le : ι.le ι') (hr : HR ι' H' w') {d : Option Nat} (hd : ∀ t, d = some t → t < nt) {v : IV} {v' : Value} (hv : VR ι' v v') : St nt ι' (putd τ (d.map pos) v) H' (a.put d v') w' where
  tr := (h.tr.mono le).put' h.size hnt hd hv
  hr := hr
  size := by
    cases d with
    | none => exact h.size
    | some d => simpa [Act.put] using h.size
  def_ := by
    cases d with
    | none => exact h.def_
    | some d => simpa [Act.put] using h.def_

theorem range_step (hnt : nt ≤ 100000) (T : TS pre nt ι0 H0 w0 ι s a w) {o : Oper} {d : Option Pos} (hd : dstT nt o.dst = some d) {t : TypeId} {x : Operand} {k e : TypeId} (ho : o.op = .range t x) (hu : P.underlying t = some (.map k e)) {y : Od} (hx : od x = some y) {L : List TSt} (hs : stepT cf s (.range d y) = some L)
    {K : Act → World → Prop} {Q : Exit → Act → World → Prop} (hK : ∀ s' ∈ L, ∀ ι' a' w', TS pre nt ι0 H0 w0 ι' s' a' w' → K a' w') : o.wp P a w K Q := by
  obtain ⟨rfl, h2⟩ := dstT_some hd
  unfold stepT at hs
  simp only [] at hs
  have hv := od_sound T.st.tr hx
  split at hs
  case h_2 => cases hs
  rename_i b hb
  rw [hb] at hv
  split at hs
  case h_2 => cases hs
  rename_i es c hm
  cases hs
  obtain ⟨L, hL, hx'⟩ := vr_m hv
  obtain ⟨es', k1, k2⟩ := map_sound T.st.hr hm hL
  unfold Oper.wp
  rw [range_run ho hu hx' k1, Oper.upon_value]
  have F := Fin.iter (w' := { w with heap := w.heap.push (.mapIter (some L.r) c #[] c) }) T.fin T.full rfl ⟨rfl, rfl, rfl, fun a => by
    unfold World.frozen?
    by_cases h : a.block < w.heap.size
    · simp [Array.getElem?_push_lt h, h]
    · by_cases h2 : a.block = w.heap.size
      · simp [h2]
      · rw [Array.getElem?_eq_none (by simp; omega), Array.getElem?_eq_none (by omega)]⟩
  have hn : ι s.h.next = none := T.full _ (Nat.le_refl _)
  have le := Emb.le_upd ⟨w.heap.size, 0, 0⟩ hn
  refine hK _ (List.mem_singleton.2 rfl) _ _ _ { st := ?_, fin := F, full := ?_, base := T.base, its := ?_ }
  · exact T.st.put' hnt le F.hr h2 (.p _ 0 ⟨w.heap.size, 0, 0⟩ (Emb.upd_eq _ _ _))
  · intro p hp
    have hp : s.h.next.nxt.num ≤ p.num := hp
    rw [Pos.num_nxt] at hp
    rw [Emb.upd_ne _ _ (fun e => by subst e; omega)]
    exact T.full p (by omega)
  · have base := T.fin.size
    have old : ∀ p it, getIt p s.its = some it → ∃ M Lb, ι p = some M ∧ M.sh = 0 ∧ w0.heap.size ≤ M.r ∧ ι it.m = some Lb ∧ w.heap[M.r]? = some (.mapIter (some Lb.r) it.since ((cond it.ex [] (pre p)) ++ it.seen).toArray it.last) ∧ p ≠ s.h.next := fun p it h => by
      obtain ⟨M, Lb, h1, h2, h3, h4, h5⟩ := T.its.ok p it h
      exact ⟨M, Lb, h1, h2, h3, h4, h5, fun e => by subst e; rw [hn] at h1; cases h1⟩
    have get : ∀ p it, getIt p ((s.h.next, (⟨b, c, [], c, true⟩ : It)) :: s.its) = some it → (p = s.h.next ∧ it = ⟨b, c, [], c, true⟩) ∨ getIt p s.its = some it := fun p it h => by
      have h : cond (Pos.eq p s.h.next) (some (⟨b, c, [], c, true⟩ : It)) (getIt p s.its) = some it := h
      cases q : Pos.eq p s.h.next with
      | true => rw [q] at h; cases h; exact .inl ⟨Pos.eq_true q, rfl⟩
      | false => rw [q] at h; exact .inr h
    constructor
    · intro p it h
      rcases get p it h with ⟨rfl, rfl⟩ | h
      · refine ⟨⟨w.heap.size, 0, 0⟩, L, Emb.upd_eq _ _ _, rfl, base, le.1 _ _ hL, ?_⟩
        show (w.heap.push _)[w.heap.size]? = _
        simp
      · obtain ⟨M, Lb, h1, h2, h3, h4, h5, h6⟩ := old p it h
        refine ⟨M, Lb, le.1 _ _ h1, h2, h3, le.1 _ _ h4, ?_⟩
        show (w.heap.push _)[M.r]? = _
        have hlt := (Array.getElem?_eq_some_iff.1 h5).1
        rw [Array.getElem?_push_lt hlt, ← h5]; simp [hlt]
    · intro p q it jt M N hp hq hM hN e
      have lt : ∀ p it M, getIt p s.its = some it → (ι.upd s.h.next ⟨w.heap.size, 0, 0⟩) p = some M → M.r < w.heap.size ∧ ι p = some M := fun p it M h hM => by
        obtain ⟨M', Lb, h1, h2, h3, h4, h5, h6⟩ := old p it h
        rw [Emb.upd_ne _ _ h6] at hM
        rw [hM] at h1; cases h1
        exact ⟨(Array.getElem?_eq_some_iff.1 h5).1, hM⟩
      rcases get p it hp with ⟨rfl, rfl⟩ | hp'
      · rcases get q jt hq with ⟨rfl, rfl⟩ | hq'
        · rfl
        · have := (lt q jt N hq' hN).1
          rw [Emb.upd_eq] at hM; cases hM
          have e : w.heap.size = N.r := e
          omega
      · rcases get q jt hq with ⟨rfl, rfl⟩ | hq'
        · have := (lt p it M hp' hM).1
          rw [Emb.upd_eq] at hN; cases hN
          have e : M.r = w.heap.size := e
          omega
        · exact T.its.inj p q it jt M N hp' hq' (lt p it M hp' hM).2 (lt q jt N hq' hN).2 e
/-- The world after a step of an iterator. -/
theorem next_step (hnt : nt ≤ 100000) (T : TS pre nt ι0 H0 w0 ι s a w) {o : Oper} {d : Option Pos} (hd : dstT nt o.dst = some d) {x : Operand} (ho : o.op = .next x false) {y : Od} (hx : od x = some y) {L : List TSt} (hs : stepT cf s (.next d y) = some L)
    {K : Act → World → Prop} {Q : Exit → Act → World → Prop} (hK : ∀ s' ∈ L, ∀ ι' a' w', TS pre nt ι0 H0 w0 ι' s' a' w' → K a' w') : o.wp P a w K Q := by
  obtain ⟨rfl, h2⟩ := dstT_some hd
  unfold stepT at hs
  simp only [] at hs
  have hv := od_sound T.st.tr hx
  split at hs
  case h_2 => cases hs
  rename_i p hp
  rw [hp] at hv
  split at hs
  case h_2 => cases hs
  rename_i it hit
  split at hs
  case h_2 => cases hs
  rename_i es c hm
  obtain ⟨hok, hs⟩ := cond_some hs
  obtain ⟨hex, hok⟩ := Go.Fg.cond_true hok
  cases hs
  obtain ⟨M, Lb, m1, m2, m3, m4, m5⟩ := T.its.ok p it hit
  rw [hex, show (cond true [] (pre p) : List Nat) = [] from rfl, List.nil_append] at m5
  obtain ⟨M', hM', hx'⟩ := vr_p hv
  rw [m1] at hM'; cases hM'
  rw [m2] at hx'
  obtain ⟨es', k1, k2⟩ := map_sound T.st.hr hm m4
  obtain ⟨i, w', g1, g2, g3⟩ := next_run (P := P) ho hx' m5 k1 (next_ok k2 hok)
  unfold Oper.wp
  rcases g3 with ⟨g3, g4⟩ | ⟨e', g3, g4⟩
  · rw [g4, Oper.upon_value]
    have hw' : w'.heap = w.heap.setIfInBounds M.r (.mapIter (some Lb.r) it.since it.seen.toArray it.last) := by
      rw [g1]; symm
      apply Array.ext
      · simp
      · intro j h1 h2
        rw [Array.getElem_setIfInBounds]
        split
        · rename_i e; subst e
          have := Array.getElem?_eq_some_iff.1 m5
          obtain ⟨_, this⟩ := this
          exact this.symm
        · rfl
    have F := T.fin.touch m5 m3 hw' g2
    refine hK (s.put (o.dst.map pos) (.tup [.b false]) s.h) (List.mem_map.2 ⟨none, mem_cands k2 g3, rfl⟩) ι _ w' { st := T.st.put' hnt (Emb.le.refl _) F.hr h2 (.tup _ _ (.cons _ _ _ _ (.b _) .nil)), fin := F, full := T.full, base := T.base, its := ?_ }
    exact ⟨fun q jt h => by rw [g1]; exact T.its.ok q jt h, T.its.inj⟩
  · rw [g4, Oper.upon_value]
    obtain ⟨e, c1, c2, c3, c4⟩ := mem_cands k2 g3
    have hsz := (Array.getElem?_eq_some_iff.1 m5).1
    have F := T.fin.touch (w' := { w' with heap := w.heap.setIfInBounds M.r (.mapIter (some Lb.r) it.since (it.seen.toArray.push e'.born) c) }) m5 m3 rfl ⟨g2.1, g2.2.1, g2.2.2.1, fun b => by
      rw [← g2.2.2.2 b]
      unfold World.frozen?
      rw [g1]
      by_cases hb : b.block = M.r
      · rw [hb, m5, Array.getElem?_setIfInBounds_self_of_lt hsz]
      · rw [Array.getElem?_setIfInBounds_ne (Ne.symm hb)]⟩
    refine hK (nextT s (o.dst.map pos) p it c (some e)) (List.mem_map.2 ⟨some e, c1, rfl⟩) ι _ _ { st := T.st.put' hnt (Emb.le.refl _) F.hr h2 (.tup _ _ (.cons _ _ _ _ (.b _) (.cons _ _ _ _ c2 (.cons _ _ _ _ c3 .nil)))), fin := F, full := T.full, base := T.base, its := ?_ }
    have get : ∀ q jt, getIt q (setIt p (stepIt it c e.born) s.its) = some jt → (q = p ∧ jt = stepIt it c e.born) ∨ (q ≠ p ∧ getIt q s.its = some jt) := fun q jt h => by
      rw [getIt_set] at h
      by_cases d : q = p
      · rw [if_pos d, hit] at h; cases h; exact .inl ⟨d, rfl⟩
      · rw [if_neg d] at h; exact .inr ⟨d, h⟩
    have was : ∀ q jt, getIt q (setIt p (stepIt it c e.born) s.its) = some jt → ∃ jt0, getIt q s.its = some jt0 := fun q jt h => by
      rcases get q jt h with ⟨rfl, _⟩ | ⟨_, h⟩
      · exact ⟨_, hit⟩
      · exact ⟨_, h⟩
    constructor
    · intro q jt h
      rcases get q jt h with ⟨rfl, rfl⟩ | ⟨hne, h⟩
      · refine ⟨M, Lb, m1, m2, m3, m4, ?_⟩
        show (w.heap.setIfInBounds M.r _)[M.r]? = some (.mapIter (some Lb.r) it.since ((cond it.ex [] (pre q)) ++ (it.seen ++ [e.born])).toArray c)
        rw [hex, show (cond true [] (pre q) : List Nat) = [] from rfl, List.nil_append]
        rw [Array.getElem?_setIfInBounds_self_of_lt hsz, c4]; simp
      · obtain ⟨N, Nb, n1, n2, n3, n4, n5⟩ := T.its.ok q jt h
        refine ⟨N, Nb, n1, n2, n3, n4, ?_⟩
        show (w.heap.setIfInBounds M.r _)[N.r]? = _
        rw [Array.getElem?_setIfInBounds_ne fun e => hne (T.its.inj q p jt it N M h hit n1 m1 e.symm)]
        exact n5
    · intro q r it1 it2 N1 N2 hq hr e1 e2 e3
      obtain ⟨j1, u1⟩ := was q it1 hq
      obtain ⟨j2, u2⟩ := was r it2 hr
      exact T.its.inj q r j1 j2 N1 N2 u1 u2 e1 e2 e3
theorem entry_step (hnt : nt ≤ 100000) (T : TS pre nt ι0 H0 w0 ι s a w) {o : Oper} {d : Option Pos} (hd : dstT nt o.dst = some d) {x : Operand} (ho : o.op = .entry x) {y : Od} (hx : od x = some y) {L : List TSt} (hs : stepT cf s (.entry d y) = some L)
    {K : Act → World → Prop} {Q : Exit → Act → World → Prop} (hK : ∀ s' ∈ L, ∀ ι' a' w', TS pre nt ι0 H0 w0 ι' s' a' w' → K a' w') : o.wp P a w K Q := by
  obtain ⟨rfl, h2⟩ := dstT_some hd
  unfold stepT at hs
  simp only [] at hs
  have hv := od_sound T.st.tr hx
  split at hs
  case h_2 => cases hs
  rename_i p hp
  rw [hp] at hv
  split at hs
  case h_2 => cases hs
  rename_i it hit
  split at hs
  case h_2 => cases hs
  rename_i es c st hm hst
  obtain ⟨hc, hs⟩ := cond_some hs
  split at hs
  case h_2 => cases hs
  rename_i e he
  cases hs
  obtain ⟨M, Lb, m1, m2, m3, m4, m5⟩ := T.its.ok p it hit
  obtain ⟨M', hM', hx'⟩ := vr_p hv
  rw [m1] at hM'; cases hM'
  rw [m2] at hx'
  obtain ⟨es', k1, k2⟩ := map_sound T.st.hr hm m4
  obtain ⟨e', f1, f2, f3⟩ := ers_find k2 he
  unfold Oper.wp
  rw [entry_run (stamp := st) ho hx' m5 k1 (by rw [List.back?_toArray, List.getLast?_append, hst]; rfl) (Nat.eq_of_beq_eq_true hc) (by rw [← Array.find?_toList]; exact f1), Oper.upon_value]
  exact hK _ (List.mem_singleton.2 rfl) _ _ _ (T.put hnt (.refl T.st.hr) h2 (.tup _ _ (.cons _ _ _ _ f2 (.cons _ _ _ _ f3 .nil))))
theorem bnd_step (hnt : nt ≤ 100000) (T : TS pre nt ι0 H0 w0 ι s a w) {o : Oper} {d : Option Pos} (hd : dstT nt o.dst = some d) {n : Nat} {first : Array Operand} (hn : n < 1000000) (ho : o.op = .makeFunc (.func n) first #[]) {xs : List Od} (hx : ods first.toList = some xs) {L : List TSt} (hs : stepT cf s (.bnd d n xs) = some L)
    {K : Act → World → Prop} {Q : Exit → Act → World → Prop} (hK : ∀ s' ∈ L, ∀ ι' a' w', TS pre nt ι0 H0 w0 ι' s' a' w' → K a' w') : o.wp P a w K Q := by
  obtain ⟨rfl, h2⟩ := dstT_some hd
  cases hs
  have hv := ods_sound T.st.tr hx
  unfold Oper.wp
  rw [bound_run ho, Oper.upon_value]
  exact hK _ (List.mem_singleton.2 rfl) _ _ _ (T.put hnt (.refl T.st.hr) h2 (.fb n hn _ _ (by rw [Array.toList_map]; exact hv)))
end
end Go.Fg
/- Unknown temporaries: one operation; operations in their order, and in every order. -/
namespace Go.Fg

theorem bindAll_mem {α β : Type} {f : α → Option (List β)} : ∀ {L : List α} {M : List β}, bindAll f L = some M → ∀ x ∈ L, ∃ A, f x = some A ∧ ∀ y ∈ A, y ∈ M
  | [], _, _, x, hx => by cases hx
  | z :: r, M, h, x, hx => by
    unfold bindAll at h
    split at h
    · rename_i a b ha hb
      cases h
      rcases List.mem_cons.1 hx with rfl | hx
      · exact ⟨a, ha, fun y hy => List.mem_append_left _ hy⟩
      · obtain ⟨A, h1, h2⟩ := bindAll_mem hb x hx
        exact ⟨A, h1, fun y hy => List.mem_append_right _ (h2 y hy)⟩
    · cases h

/-- A state some of whose temporaries are not known. -/
structure USt where
  s : TSt
  unk : List Pos
structure UOp where
  o : TOp
  rd : List Pos
  d : Option Pos
def posT : List Operand → Option (List Pos)
  | [] => some []
  | .tmp t :: r => cond (Nat.blt t 1000000) (match posT r with
    | some l => some (pos t :: l)
    | none => none) none
  | _ :: r => posT r
noncomputable def compU (P : Program) (nt : Nat) (o : Oper) : UOp := match posT o.op.operands.toList with
  | some l => ⟨compT P nt o, l, o.dst.map pos⟩
  | none => ⟨badT, [], none⟩
noncomputable def noneIn (l unk : List Pos) : Bool := l.all fun p => !memP p unk
noncomputable def delO (d : Option Pos) (unk : List Pos) : List Pos := match d with
  | some p => delP p unk
  | none => unk
noncomputable def stepU (cf : CallT) (u : USt) (x : UOp) : Option (List USt) := cond (noneIn x.rd u.unk) (match stepT cf u.s x.o with
  | some L => some (L.map fun s => ⟨s, delO x.d u.unk⟩)
  | none => none) none

/-- What is known of a state that some temporaries are not known of. -/
def TU (pre : Pos → List Nat) (nt : Nat) (ι0 : Emb) (H0 : Hp) (w0 : World) (ι : Emb) (u : USt) (a : Act) (w : World) : Prop := ∃ b : Act, TS pre nt ι0 H0 w0 ι u.s b w ∧ b.tmps.size = a.tmps.size ∧ a.defers = [] ∧ ∀ t, t < 1000000 → memP (pos t) u.unk = false → a.tmps.getD t undef = b.tmps.getD t undef

section
variable {P : Program} {pre : Pos → List Nat} {cf : CallT} {nt : Nat} {ι0 ι : Emb} {H0 : Hp} {w0 w : World} {u : USt} {a : Act}

theorem wp_ghost {o : Oper} {a b : Act} {w : World} {K G : Act → World → Prop} {Q : Exit → Act → World → Prop} (he : execOp a.eval o = execOp b.eval o) (hb : o.wp P b w G (fun _ _ _ => False)) (hk : ∀ v w', G (b.put o.dst v) w' → K (a.put o.dst v) w')
    (hd : ∀ d v w', ¬ G ({ b with defers := d :: b.defers }.put o.dst v) w') : o.wp P a w K Q := by
  unfold Oper.wp at hb ⊢
  rw [he]
  generalize (execOp b.eval o).run P w = r at hb ⊢
  cases r with
  | ok n w' =>
    cases n with
    | value v => exact hk v w' hb
    | skip => exact hk undef w' hb
    | defer d => exact absurd hb (hd d undef w')
    | enter f args =>
      refine Calls.mono hb fun e w2 h => ?_
      cases e with
      | returned v => exact hk v w2 h
      | panicked c => exact h.elim
      | outgrown => obtain ⟨_, _, h⟩ := h; exact h.elim
    | row r args => exact Rows.mono hb fun v w2 h => hk v w2 h
    | _ => exact (show False from hb).elim
  | halt x w' =>
    cases x <;> exact (show False from hb).elim

theorem posT_mem : ∀ {l : List Operand} {r : List Pos}, posT l = some r → ∀ t, Operand.tmp t ∈ l → t < 1000000 ∧ pos t ∈ r
  | [], _, _, t, h => by cases h
  | x :: l, r, e, t, h => by
    cases x with
    | tmp k =>
      obtain ⟨c, e⟩ := cond_some (show cond (Nat.blt k 1000000) (match posT l with | some l => some (pos k :: l) | none => none) none = some r from e)
      split at e
      case h_2 => cases e
      rename_i l' hl
      cases e
      rcases List.mem_cons.1 h with h | h
      · cases h; exact ⟨Nat.le_of_ble_eq_true c, List.mem_cons_self ..⟩
      · obtain ⟨h1, h2⟩ := posT_mem hl t h; exact ⟨h1, List.mem_cons_of_mem _ h2⟩
    | const v => rcases List.mem_cons.1 h with h | h; (· cases h); exact posT_mem (show posT l = some r from e) t h
    | global g => rcases List.mem_cons.1 h with h | h; (· cases h); exact posT_mem (show posT l = some r from e) t h
    | func f => rcases List.mem_cons.1 h with h | h; (· cases h); exact posT_mem (show posT l = some r from e) t h
theorem memP_iff' {p : Pos} : ∀ {l : List Pos}, memP p l = true ↔ p ∈ l
  | [] => by show false = true ↔ _; simp
  | q :: l => by
    show cond (Pos.eq p q) true (memP p l) = true ↔ _
    rw [List.mem_cons, ← memP_iff' (p := p) (l := l)]
    by_cases e : p = q
    · subst e; rw [Pos.eq_self]; simp
    · rw [Pos.eq_no e]; simp [e]
theorem memP_del {p q : Pos} : ∀ {l : List Pos}, memP q (delP p l) = true ↔ q ≠ p ∧ memP q l = true
  | [] => by show false = true ↔ _ ∧ false = true; simp
  | r :: l => by
    have ih := memP_del (p := p) (q := q) (l := l)
    show memP q (cond (Pos.eq p r) (delP p l) (r :: delP p l)) = true ↔ q ≠ p ∧ cond (Pos.eq q r) true (memP q l) = true
    by_cases e : p = r
    · subst e
      rw [Pos.eq_self]
      show memP q (delP p l) = true ↔ _
      rw [ih]
      by_cases d : q = p
      · simp [d]
      · rw [Pos.eq_no d]; simp [d]
    · rw [Pos.eq_no e]
      show cond (Pos.eq q r) true (memP q (delP p l)) = true ↔ _
      by_cases d : q = r
      · subst d
        rw [Pos.eq_self]
        simp only [_root_.cond_true, and_true]
        exact ⟨fun _ h => e h.symm, fun _ => trivial⟩
      · rw [Pos.eq_no d]; exact ih

/-- One operation. -/
theorem one_stepU (hcf : CSimT P cf) (hnt : nt ≤ 100000) (T : TU pre nt ι0 H0 w0 ι u a w) {o : Oper} {L : List USt} (one : ∀ {ι : Emb} {s : TSt} {b : Act} {w : World}, TS pre nt ι0 H0 w0 ι s b w → ∀ {L : List TSt}, stepT cf s (compT P nt o) = some L → ∀ {K : Act → World → Prop} {Q : Exit → Act → World → Prop},
      (∀ s' ∈ L, ∀ ι' a' w', TS pre nt ι0 H0 w0 ι' s' a' w' → K a' w') → o.guard = none ∧ (∀ t, o.dst = some t → t < nt) ∧ (∀ cs b, o.op ≠ .select cs b) ∧ o.wp P b w K Q)
    (hs : stepU cf u (compU P nt o) = some L) {K : Act → World → Prop} {Q : Exit → Act → World → Prop} (hK : ∀ u' ∈ L, ∀ ι' a' w', TU pre nt ι0 H0 w0 ι' u' a' w' → K a' w') : o.guard = none ∧ o.wp P a w K Q := by
  obtain ⟨b, TB, sz, df, sm⟩ := T
  unfold compU at hs
  split at hs
  case h_2 => exact absurd hs (by unfold stepU; rw [show stepT cf u.s badT = none from rfl]; cases noneIn [] u.unk <;> simp)
  rename_i rd hrd
  obtain ⟨hn, hs⟩ := cond_some hs
  simp only [] at hs
  split at hs
  case h_2 => cases hs
  rename_i L1 h1
  cases hs
  obtain ⟨g, hd, nsel, wp⟩ := one TB h1 (K := fun b' w' => ∃ s' ∈ L1, ∃ ι', TS pre nt ι0 H0 w0 ι' s' b' w') (Q := fun _ _ _ => False) fun s' hs' ι' a' w' T' => ⟨s', hs', ι', T'⟩
  have known : ∀ t, Operand.tmp t ∈ o.op.operands → a.eval (.tmp t) = b.eval (.tmp t) := fun t ht => by
    obtain ⟨h2, h3⟩ := posT_mem hrd t (by simpa using ht)
    unfold noneIn at hn
    have h4 := List.all_eq_true.1 hn _ h3
    exact sm t h2 (by simpa using h4)
  refine ⟨g, wp_ghost (execOp_congr o nsel fun x hx => ?_) wp (fun v w' ⟨s', hs', ι', T'⟩ => ?_) fun d v w' ⟨s', hs', ι', T'⟩ => ?_⟩
  · cases x with
    | tmp t => exact known t hx
    | const v => rfl
    | global g => rfl
    | func f => rfl
  · refine hK _ (List.mem_map.2 ⟨s', hs', rfl⟩) ι' _ w' ⟨b.put o.dst v, T', ?_, ?_, fun t ht hm => ?_⟩
    · cases o.dst <;> simp [Act.put, sz]
    · cases o.dst <;> exact df
    · cases ho : o.dst with
      | none => rw [ho] at hm; exact sm t ht hm
      | some k =>
        rw [ho] at hm
        have hk : k < 1000000 := Nat.lt_of_lt_of_le (hd k ho) (by omega)
        show (a.tmps.setIfInBounds k v).getD t undef = (b.tmps.setIfInBounds k v).getD t undef
        by_cases e : t = k
        · subst e
          simp only [Array.getD_eq_getD_getElem?, Array.getElem?_setIfInBounds, if_true, sz]
          first | done | (split <;> simp_all)
        · have h5 : memP (pos t) u.unk = false := by
            cases q : memP (pos t) u.unk with
            | false => rfl
            | true =>
              have : memP (pos t) (delP (pos k) u.unk) = true := memP_del.2 ⟨fun c => e (pos_inj ht hk c), q⟩
              have hm : memP (pos t) (delP (pos k) u.unk) = false := hm
              rw [this] at hm; cases hm
          have := sm t ht h5
          simpa [Array.getD_eq_getD_getElem?, Array.getElem?_setIfInBounds_ne (Ne.symm e)] using this
  · have := T'.st.def_
    cases ho : o.dst <;> (rw [ho] at this; cases this)
end
end Go.Fg
/- Unknown temporaries: operations in their order, and in every order; code, but for loops over maps. -/
namespace Go.Fg
section
variable {P : Program} {pre : Pos → List Nat} {cf : CallT} {nt : Nat} {ι0 ι : Emb} {H0 : Hp} {w0 w : World} {s : TSt} {a : Act}

theorem stepT_bad {s : TSt} : stepT cf s badT = none := rfl
/-- One operation. -/
theorem one_step (hcf : CSimT P cf) (hnt : nt ≤ 100000) (T : TS pre nt ι0 H0 w0 ι s a w) {o : Oper} {L : List TSt} (hs : stepT cf s (compT P nt o) = some L)
    {K : Act → World → Prop} {Q : Exit → Act → World → Prop} (hK : ∀ s' ∈ L, ∀ ι' a' w', TS pre nt ι0 H0 w0 ι' s' a' w' → K a' w') : o.guard = none ∧ (∀ t, o.dst = some t → t < nt) ∧ (∀ cs b, o.op ≠ .select cs b) ∧ o.wp P a w K Q := by
  unfold compT at hs
  split at hs
  case h_2 => rw [stepT_bad] at hs; cases hs
  rename_i d hg hd
  refine ⟨hg, (dstT_some hd).2, fun cs b e => ?_, ?_⟩
  · rw [e] at hs
    have : compOp P o = none := by unfold compOp; rw [e]
    have hs : stepT cf s (.base ⟨d, (compOp P o).getD .bad, none, 0, false⟩) = some L := hs
    rw [this] at hs; cases hs
  split at hs
  · rename_i t x ho
    split at hs
    · rename_i k e y hu hx
      exact range_step hnt T hd ho hu hx hs hK
    · rw [stepT_bad] at hs; cases hs
  · rename_i x ho
    split at hs
    · rename_i y hx
      exact next_step hnt T hd ho hx hs hK
    · rw [stepT_bad] at hs; cases hs
  · rename_i x ho
    split at hs
    · rename_i y hx
      exact entry_step hnt T hd ho hx hs hK
    · rw [stepT_bad] at hs; cases hs
  · rename_i n first captured ho
    cases c : Nat.blt n 1000000 with
    | false => rw [c] at hs; cases hs
    | true =>
      rw [c] at hs
      have hs : stepT cf s (match captured.toList, first.toList with
        | [], y :: l => match ods (y :: l) with
          | some xs => .bnd d n xs
          | none => badT
        | _, _ => .base ⟨d, (compOp P o).getD .bad, none, 0, false⟩) = some L := hs
      cases hc : captured.toList with
      | cons z t => rw [hc] at hs; exact base_step hnt T hd hs hK
      | nil =>
        rw [hc] at hs
        have hc : captured = #[] := by simpa using hc
        subst hc
        cases hf : first.toList with
        | nil => rw [hf] at hs; exact base_step hnt T hd hs hK
        | cons y l =>
          rw [hf] at hs
          have hs : stepT cf s (match ods (y :: l) with | some xs => .bnd d n xs | none => badT) = some L := hs
          cases hx : ods (y :: l) with
          | none => rw [hx] at hs; cases hs
          | some xs => rw [hx] at hs; exact bnd_step hnt T hd (Nat.le_of_ble_eq_true c) ho (by rw [hf]; exact hx) hs hK
  · rename_i c ho
    split at hs
    · rename_i f xs hc
      exact call_step hcf hnt T hd hc hs hK
    · rename_i io hc
      exact base_step hnt T hd (by rw [hc]; exact hs) hK
    · rw [stepT_bad] at hs; cases hs
  · exact base_step hnt T hd hs hK

theorem one_U (hcf : CSimT P cf) (hnt : nt ≤ 100000) {u : USt} (T : TU pre nt ι0 H0 w0 ι u a w) {o : Oper} {L : List USt} (hs : stepU cf u (compU P nt o) = some L)
    {K : Act → World → Prop} {Q : Exit → Act → World → Prop} (hK : ∀ u' ∈ L, ∀ ι' a' w', TU pre nt ι0 H0 w0 ι' u' a' w' → K a' w') : o.guard = none ∧ o.wp P a w K Q :=
  one_stepU hcf hnt T (fun T _ hs _ _ hK => one_step hcf hnt T hs hK) hs hK
noncomputable def opsU (cf : CallT) : List UOp → USt → Option (List USt)
  | [], s => some [s]
  | o :: r, s => match stepU cf s o with
    | some L => bindAll (opsU cf r) L
    | none => none
theorem opsU_sound (hcf : CSimT P cf) (hnt : nt ≤ 100000) {ops : Array Oper} {Q : Exit → Act → World → Prop} : ∀ (l : List Oper) (k : Nat) {ι : Emb} {u : USt} {a : Act} {w : World} {L : List USt},
    (∀ j, l[j]? = ops[k + j]?) → TU pre nt ι0 H0 w0 ι u a w → opsU cf (l.map (compU P nt)) u = some L → (∀ u' ∈ L, ∀ ι' a' w', TU pre nt ι0 H0 w0 ι' u' a' w' → Q .normal a' w') → wpOps P ops Q (List.range' k l.length) a w
  | [], k, ι, u, a, w, L, hl, T, h, hQ => by
    cases h
    exact hQ _ (List.mem_singleton.2 rfl) _ _ _ T
  | o :: r, k, ι, u, a, w, L, hl, T, h, hQ => by
    have h : (match stepU cf u (compU P nt o) with | some L1 => bindAll (opsU cf (r.map (compU P nt))) L1 | none => none) = some L := h
    split at h
    case h_2 => cases h
    rename_i L1 h1
    have hk : ops[k]? = some o := by simpa using (hl 0).symm
    have hl' : ∀ j, r[j]? = ops[k + 1 + j]? := fun j => by
      have := hl (j + 1)
      simpa [Nat.add_assoc, Nat.add_comm 1 j] using this
    show wpOps P ops Q (k :: List.range' (k + 1) r.length) a w
    unfold wpOps
    rw [hk]
    simp only []
    obtain ⟨g, st⟩ := one_U hcf hnt T h1 (K := fun a' w' => wpOps P ops Q (List.range' (k + 1) r.length) a' w') (Q := Q) fun s' hs' ι' a' w' T' => by
      obtain ⟨A, e1, e2⟩ := bindAll_mem h s' hs'
      exact opsU_sound hcf hnt r (k + 1) hl' T' e1 fun s2 h2 => hQ s2 (e2 s2 h2)
    have hw : Region.wanted o (yielded ops a.tmps) = true := by unfold Region.wanted; rw [g]
    rw [hw]
    simp only [if_true]
    exact .inl st
end
end Go.Fg
/- Forgetting temporaries and young blocks. -/
namespace Go.Fg

mutual
/-- Are all names in a value below n? -/
def oldV (n : Nat) : IV → Bool
  | .p b _ => Nat.blt b.num n
  | .sl b _ _ _ _ => Nat.blt b.num n
  | .m r => Nat.blt r.num n
  | .f _ l => oldVs n l
  | .agg l => oldVs n l
  | .tup l => oldVs n l
  | .ic _ v => oldV n v
  | _ => true
def oldVs (n : Nat) : List IV → Bool
  | [] => true
  | v :: r => cond (oldV n v) (oldVs n r) false
end
/-- An embedding of the names below n. -/
def Emb.below (ι : Emb) (n : Nat) : Emb := ⟨fun b => if b.num < n then ι b else none, ι.im⟩
theorem Emb.below_lt {ι : Emb} {n : Nat} {b : Pos} (h : b.num < n) : ι.below n b = ι b := if_pos h
theorem Emb.below_some {ι : Emb} {n : Nat} {b : Pos} {L : Loc} (h : ι.below n b = some L) : b.num < n ∧ ι b = some L := by
  have h : (if b.num < n then ι b else none) = some L := h
  split at h
  · exact ⟨‹_›, h⟩
  · cases h
theorem Emb.below_le (ι : Emb) (n : Nat) : (ι.below n).le ι := ⟨fun _ _ h => (Emb.below_some h).2, fun _ _ _ h => h⟩
theorem oldVs_cons {n : Nat} {v : IV} {r : List IV} (h : oldVs n (v :: r) = true) : oldV n v = true ∧ oldVs n r = true := by
  unfold oldVs at h
  exact Go.Fg.cond_true h
mutual
theorem VR.cut {ι : Emb} {n : Nat} : ∀ {x : IV} {y : Value}, VR ι x y → oldV n x = true → VR (ι.below n) x y
  | _, _, .b x, _ => .b x
  | _, _, .i k x, _ => .i k x
  | _, _, .s l bs h, _ => .s l bs h
  | _, _, .p b o L h, e => .p b o L (by rw [Emb.below_lt (Nat.le_of_ble_eq_true (by unfold oldV at e; exact e))]; exact h)
  | _, _, .pn, _ => .pn
  | _, _, .sl b o m c z L c' h hn hc hz, e => .sl b o m c z L c' (by rw [Emb.below_lt (Nat.le_of_ble_eq_true (by unfold oldV at e; exact e))]; exact h) hn hc hz
  | _, _, .sle b o c z L a h hc, e => .sle b o c z L a (by rw [Emb.below_lt (Nat.le_of_ble_eq_true (by unfold oldV at e; exact e))]; exact h) hc
  | _, _, .sn, _ => .sn
  | _, _, .m r L h, e => .m r L (by rw [Emb.below_lt (Nat.le_of_ble_eq_true (by unfold oldV at e; exact e))]; exact h)
  | _, _, .mn, _ => .mn
  | _, _, .f k hk caps caps' h, e => .f k hk caps caps' (VRs.cut h (by unfold oldV at e; exact e))
  | _, _, .fn, _ => .fn
  | _, _, .agg l l' h, e => .agg l l' (VRs.cut h (by unfold oldV at e; exact e))
  | _, _, .tup l l' h, e => .tup l l' (VRs.cut h (by unfold oldV at e; exact e))
  | _, _, .ic t ht v v' h, e => .ic t ht v v' (VR.cut h (by unfold oldV at e; exact e))
  | _, _, .fb k hk l l' h, e => .fb k hk l l' (VRs.cut h (by unfold oldV oldV at e; exact e))
  | _, _, .inn, _ => .inn
  | _, _, .pi l l0 r sh d h hw, _ => .pi l l0 r sh d h hw
  | _, _, .sli es l0 r sh d z c h hw hz hc, _ => .sli es l0 r sh d z c h hw hz hc
  | _, _, .sli0 a c, _ => .sli0 a c
  | _, _, .slin, _ => .slin
  | _, _, .mi ks vs r h, _ => .mi ks vs r h
  | _, _, .min, _ => .min
theorem VRs.cut {ι : Emb} {n : Nat} : ∀ {x : List IV} {y : List Value}, VRs ι x y → oldVs n x = true → VRs (ι.below n) x y
  | _, _, .nil, _ => .nil
  | _, _, .cons x y xs ys h t, e => .cons x y xs ys (VR.cut h (oldVs_cons e).1) (VRs.cut t (oldVs_cons e).2)
end

/-! A tree's part below n, what is empty cut off. -/
def nodeP {α : Type} (l : PT α) (v : Option α) (r : PT α) : PT α := match l, v, r with
  | .nil, none, .nil => .nil
  | l, v, r => .nd l v r
/-- p: the road here, k: the number of the root. -/
def cutP {α : Type} (n : Nat) : PT α → (Nat → Nat) → PT α
  | .nil, _ => .nil
  | .nd l v r, f => nodeP (cutP n l fun x => f (2 * x)) (cond (Nat.blt (f 1) n) v none) (cutP n r fun x => f (2 * x + 1))
theorem get_nodeP {α : Type} (l : PT α) (v : Option α) (r : PT α) (p : Pos) : PT.get (nodeP l v r) p = PT.get (.nd l v r) p := by
  unfold nodeP
  split
  · cases p <;> simp [PT.get_nil, PT.get_nd_h, PT.get_nd_o, PT.get_nd_i]
  · rfl
theorem get_cutP {α : Type} (n : Nat) : ∀ (t : PT α) (f : Nat → Nat) (p : Pos), PT.get (cutP n t f) p = if f p.num < n then PT.get t p else none
  | .nil, f, p => by show PT.get .nil p = _; rw [PT.get_nil]; split <;> rfl
  | .nd l v r, f, p => by
    show PT.get (nodeP _ _ _) p = _
    rw [get_nodeP]
    cases p with
    | h =>
      rw [PT.get_nd_h, PT.get_nd_h]
      show cond (Nat.blt (f 1) n) v none = if f 1 < n then v else none
      by_cases c : f 1 < n
      · rw [if_pos c, show Nat.blt (f 1) n = true from Nat.ble_eq_true_of_le c]; rfl
      · rw [if_neg c]
        cases q : Nat.blt (f 1) n with
        | true => exact absurd (Nat.le_of_ble_eq_true q) c
        | false => rfl
    | o p => rw [PT.get_nd_o, PT.get_nd_o, get_cutP n l]; rfl
    | i p => rw [PT.get_nd_i, PT.get_nd_i, get_cutP n r]; rfl
end Go.Fg
/- Forgetting temporaries and young blocks is sound. -/
namespace Go.Fg

def allP {α : Type} (q : α → Bool) : PT α → Bool
  | .nil => true
  | .nd l v r => cond (match v with | some x => q x | none => true) (cond (allP q l) (allP q r) false) false
theorem allP_get {α : Type} {q : α → Bool} : ∀ {t : PT α} {p : Pos} {x : α}, allP q t = true → PT.get t p = some x → q x = true
  | .nil, p, x, _, h => by rw [PT.get_nil] at h; cases h
  | .nd l v r, p, x, e, h => by
    unfold allP at e
    obtain ⟨e1, e2⟩ := Go.Fg.cond_true e
    obtain ⟨e2, e3⟩ := Go.Fg.cond_true e2
    cases p with
    | h => rw [PT.get_nd_h] at h; subst h; exact e1
    | o p => rw [PT.get_nd_o] at h; exact allP_get e2 h
    | i p => rw [PT.get_nd_i] at h; exact allP_get e3 h
def oldB (n : Nat) : Blk → Bool
  | .cells _ l => oldVs n l
  | .rc _ l => oldVs n l
  | .map es _ => es.all fun e => cond (oldV n e.key) (oldV n e.val) false
  | .rm es _ => es.all fun e => cond (oldV n e.key) (oldV n e.val) false
theorem oldVs_get {n : Nat} : ∀ {l : List IV} {i : Nat} {v : IV}, oldVs n l = true → l[i]? = some v → oldV n v = true
  | [], i, v, _, h => by simp at h
  | x :: r, 0, v, e, h => by simp at h; subst h; exact (oldVs_cons e).1
  | x :: r, i + 1, v, e, h => oldVs_get (oldVs_cons e).2 (by simpa using h)
theorem CR.cut {ι : Emb} {n m : Nat} {l : List IV} {L : Loc} {w : World} (h : CR ι m l L w) (e : oldVs n l = true) : CR (ι.below n) m l L w := by
  obtain ⟨h1, h2, c, t, lo, hi, h3, h4, h5, h6⟩ := h
  exact ⟨h1, h2, c, t, lo, hi, h3, h4, h5, fun i v hv => let ⟨v', a, b⟩ := h6 i v hv; ⟨v', a, b.cut (oldVs_get e hv)⟩⟩
theorem ERs.cut {ι : Emb} {n : Nat} : ∀ {x : List IEnt} {y : List MapEntry}, ERs ι x y → (x.all fun e => cond (oldV n e.key) (oldV n e.val) false) = true → ERs (ι.below n) x y
  | _, _, .nil, _ => .nil
  | _, _, .cons x y xs ys hk hv hb t, e => by
    rw [List.all_cons, Bool.and_eq_true] at e
    obtain ⟨e1, e2⟩ := Go.Fg.cond_true e.1
    exact .cons x y xs ys (hk.cut e1) (hv.cut e2) hb (ERs.cut t e.2)
theorem BR.cut {ι : Emb} {n : Nat} {x : Blk} {L : Loc} {w : World} (h : BR ι x L w) (e : oldB n x = true) : BR (ι.below n) x L w := by
  cases x with
  | cells m l => exact CR.cut h e
  | rc m l => exact CR.cut h e
  | map es c => obtain ⟨es', h1, h2⟩ := h; exact ⟨es', h1, h2.cut e⟩
  | rm es c => obtain ⟨es', h1, h2⟩ := h; exact ⟨es', h1, h2.cut e⟩
noncomputable def cutH (N : Pos) (h : Hp) : Hp := ⟨cutP N.num h.t (fun x => x), N⟩
theorem get_cutH (N : Pos) (h : Hp) (p : Pos) : (cutH N h).get p = if p.num < N.num then h.get p else none := get_cutP N.num h.t (fun x => x) p
noncomputable def forgetT (F : List Pos) (τ : Fm) : Fm := match F with
  | [] => τ
  | p :: r => PT.put (forgetT r τ) p (some undefd)
theorem forget_at {τ : Fm} {q : Pos} : ∀ {F : List Pos}, Fm.at (forgetT F τ) q = if memP q F = true then undefd else Fm.at τ q
  | [] => by show Fm.at τ q = if false = true then _ else _; simp
  | p :: r => by
    show Fm.at (putd (forgetT r τ) (some p) undefd) q = if cond (Pos.eq q p) true (memP q r) = true then undefd else Fm.at τ q
    by_cases e : q = p
    · subst e; rw [Fm.at_putd_eq, Pos.eq_self]; simp
    · rw [Fm.at_putd_ne _ _ e, forget_at (F := r), Pos.eq_no e]; rfl
def cutI (n : Nat) : Its → Its
  | [] => []
  | e :: r => cond (Nat.blt e.1.num n) (e :: cutI n r) (cutI n r)
theorem getIt_cut {n : Nat} {p : Pos} {it : It} : ∀ {l : Its}, getIt p (cutI n l) = some it → p.num < n ∧ getIt p l = some it
  | [], h => by cases h
  | e :: r, h => by
    have h : getIt p (cond (Nat.blt e.1.num n) (e :: cutI n r) (cutI n r)) = some it := h
    show _ ∧ cond (Pos.eq p e.1) (some e.2) (getIt p r) = some it
    cases c : Nat.blt e.1.num n with
    | true =>
      rw [c] at h
      have h : cond (Pos.eq p e.1) (some e.2) (getIt p (cutI n r)) = some it := h
      cases d : Pos.eq p e.1 with
      | true =>
        rw [d] at h
        have := Pos.eq_true d
        subst this
        exact ⟨Nat.le_of_ble_eq_true c, h⟩
      | false => rw [d] at h; exact getIt_cut (l := r) h
    | false =>
      rw [c] at h
      obtain ⟨h1, h2⟩ := getIt_cut (l := r) h
      refine ⟨h1, ?_⟩
      have : p ≠ e.1 := fun d => by
        have h3 : Nat.blt p.num n = true := Nat.ble_eq_true_of_le h1
        rw [d] at h3
        rw [h3] at c; cases c
      rw [Pos.eq_no this]; exact h2
def oldI (n : Nat) (l : Its) : Bool := l.all fun e => Nat.blt e.2.m.num n
theorem oldI_get {n : Nat} {p : Pos} {it : It} : ∀ {l : Its}, oldI n l = true → getIt p l = some it → it.m.num < n
  | [], _, h => by cases h
  | e :: r, o, h => by
    unfold oldI at o
    rw [List.all_cons, Bool.and_eq_true] at o
    have h : cond (Pos.eq p e.1) (some e.2) (getIt p r) = some it := h
    cases d : Pos.eq p e.1 with
    | true => rw [d] at h; cases h; exact Nat.le_of_ble_eq_true o.1
    | false => rw [d] at h; exact oldI_get (l := r) o.2 h
/-- Only what lies below N is kept; the temporaries F are forgotten. -/
noncomputable def gcU (N : Pos) (F : List Pos) (u : USt) : Option USt :=
  cond (subP u.unk F) (cond (allP (oldB N.num) (cutP N.num u.s.h.t (fun x => x))) (cond (allP (oldV N.num) (forgetT F u.s.τ)) (cond (oldI N.num (cutI N.num u.s.its)) (cond (Nat.ble N.num u.s.h.next.num)
    (some ⟨⟨forgetT F u.s.τ, cutH N u.s.h, cutI N.num u.s.its⟩, F⟩) none) none) none) none) none

section
variable {P : Program} {pre : Pos → List Nat} {nt : Nat} {ι0 ι : Emb} {H0 : Hp} {w0 w : World} {u v : USt} {a : Act}
theorem gc_sound (T : TU pre nt ι0 H0 w0 ι u a w) {N : Pos} (hN : H0.next.num ≤ N.num) {F : List Pos} (e : gcU N F u = some v) : TU pre nt ι0 H0 w0 (ι.below N.num) v a w := by
  obtain ⟨b, T, sz, df, sm⟩ := T
  unfold gcU at e
  obtain ⟨e1, e⟩ := cond_some e
  obtain ⟨e2, e⟩ := cond_some e
  obtain ⟨e3, e⟩ := cond_some e
  obtain ⟨e4, e⟩ := cond_some e
  obtain ⟨e5, e⟩ := cond_some e
  cases e
  have hNn := Nat.le_of_ble_eq_true e5
  have g : ∀ p x, (cutH N u.s.h).get p = some x → p.num < N.num ∧ u.s.h.get p = some x ∧ oldB N.num x = true := fun p x h => by
    have o : oldB N.num x = true := allP_get e2 (show PT.get (cutP N.num u.s.h.t (fun x => x)) p = some x from h)
    rw [get_cutH] at h
    split at h
    · exact ⟨‹_›, h, o⟩
    · cases h
  have gn : ∀ p, (cutH N u.s.h).get p ≠ none → p.num < N.num ∧ u.s.h.get p ≠ none := fun p h => by
    cases q : (cutH N u.s.h).get p with
    | none => exact absurd q h
    | some x => obtain ⟨h1, h2, _⟩ := g p x q; exact ⟨h1, by rw [h2]; simp⟩
  have hr : HR (ι.below N.num) (cutH N u.s.h) w := {
    pro := fun x r sh h => T.st.hr.pro x r sh h
    apart := fun p x L y r sh hb hl hL hy => T.st.hr.apart p x L y r sh (g p x hb).2.1 hl (Emb.below_some hL).2 hy
    blk := fun p x L hb hL => (T.st.hr.blk p x L (g p x hb).2.1 (Emb.below_some hL).2).cut (g p x hb).2.2
    inj := fun p q L M h1 h2 k1 k2 => T.st.hr.inj p q L M (gn p h1).2 (gn q h2).2 (Emb.below_some k1).2 (Emb.below_some k2).2
    lt := fun p L hL => T.st.hr.lt p L (Emb.below_some hL).2
    low := fun p hp => (gn p hp).1 }
  have b0 : ∀ p L, ι0 p = some L → p.num < N.num := fun p L h => by
    rcases Nat.lt_or_ge p.num H0.next.num with c | c
    · omega
    · rw [T.base p c] at h; cases h
  refine ⟨{ b with tmps := b.tmps.mapIdx fun t x => if memP (pos t) F = true then undef else x }, { st := ⟨fun t ht => ?_, hr, ?_, T.st.def_⟩, fin := ?_, full := fun p hp => ?_, base := T.base, its := ⟨fun p it h => ?_, fun p q it jt L M h1 h2 k1 k2 => ?_⟩ }, by simpa using sz, df, fun t ht hm => ?_⟩
  · rw [forget_at]
    have gd : ({ b with tmps := b.tmps.mapIdx fun t x => if memP (pos t) F = true then undef else x } : Act).tmps.getD t undef = if memP (pos t) F = true then undef else b.tmps.getD t undef := by
      show (b.tmps.mapIdx fun t x => if memP (pos t) F = true then undef else x).getD t undef = _
      rw [Array.getD_eq_getD_getElem?, Array.getElem?_mapIdx, Array.getD_eq_getD_getElem?]
      cases b.tmps[t]? with
      | none => simp
      | some x => rfl
    rw [gd]
    by_cases c : memP (pos t) F = true
    · rw [if_pos c, if_pos c]; exact vr_undef _
    · rw [if_neg c, if_neg c]
      refine (T.st.tr t ht).cut ?_
      have : Fm.at (forgetT F u.s.τ) (pos t) = Fm.at u.s.τ (pos t) := by rw [forget_at, if_neg c]
      rw [← this]
      unfold Fm.at
      cases q : PT.get (forgetT F u.s.τ) (pos t) with
      | none => rfl
      | some x => exact allP_get e3 q
  · simpa using T.st.size
  · exact {
      ext := ⟨fun p L h => by rw [Emb.below_lt (b0 p L h)]; exact T.fin.ext.1 p L h, T.fin.ext.2⟩
      fresh := fun p h1 h2 => by
        cases q : ι.below N.num p with
        | none => exact absurd q h2
        | some L => obtain ⟨k1, k2⟩ := Emb.below_some q; exact ⟨(T.fin.fresh p h1 (by rw [k2]; simp)).1, k1⟩
      hr := hr
      up := hN
      size := T.fin.size
      frame := T.fin.frame
      cover := fun p L h1 h2 h3 => T.fin.cover p L (Emb.below_some h1).2 (gn p h2).2 h3
      icov := T.fin.icov
      still := fun p h1 h2 => by rw [get_cutH, if_pos (by omega)]; exact T.fin.still p h1 h2
      out := T.fin.out }
  · have hp : N.num ≤ p.num := hp
    show (if p.num < N.num then ι p else none) = none
    rw [if_neg (by omega)]
  · obtain ⟨h1, h2⟩ := getIt_cut h
    obtain ⟨L, Lb, m1, m2, m3, m4, m6⟩ := T.its.ok p it h2
    exact ⟨L, Lb, by rw [Emb.below_lt h1]; exact m1, m2, m3, by rw [Emb.below_lt (oldI_get e4 h)]; exact m4, m6⟩
  · exact T.its.inj p q it jt L M (getIt_cut h1).2 (getIt_cut h2).2 (Emb.below_some k1).2 (Emb.below_some k2).2
  · have hm : memP (pos t) F = false := hm
    have h1 : memP (pos t) u.unk = false := by
      cases q : memP (pos t) u.unk with
      | false => rfl
      | true => rw [memP_iff.2 (subP_mem e1 _ (memP_iff.1 q))] at hm; cases hm
    rw [sm t ht h1]
    show _ = (b.tmps.mapIdx fun t x => if memP (pos t) F = true then undef else x).getD t undef
    rw [Array.getD_eq_getD_getElem?, Array.getD_eq_getD_getElem?, Array.getElem?_mapIdx]
    cases b.tmps[t]? with
    | none => rfl
    | some x => show x = if memP (pos t) F = true then undef else x; rw [hm]; rfl
end
end Go.Fg
/- Loops over maps whose states recur: definitions. -/
namespace Go.Fg

def beqP {α : Type} (q : α → α → Bool) : PT α → PT α → Bool
  | .nil, .nil => true
  | .nd l v r, .nd l' v' r' => cond (match v, v' with | none, none => true | some x, some y => q x y | _, _ => false) (cond (beqP q l l') (beqP q r r') false) false
  | _, _ => false
theorem beqP_eq {α : Type} {q : α → α → Bool} (hq : ∀ x y, q x y = true → x = y) : ∀ {s t : PT α}, beqP q s t = true → s = t
  | .nil, .nil, _ => rfl
  | .nil, .nd _ _ _, h => by cases h
  | .nd _ _ _, .nil, h => by cases h
  | .nd l v r, .nd l' v' r', h => by
    unfold beqP at h
    obtain ⟨h1, h⟩ := Go.Fg.cond_true h
    obtain ⟨h2, h3⟩ := Go.Fg.cond_true h
    rw [beqP_eq hq h2, beqP_eq hq h3]
    cases v with
    | none => cases v' with
      | none => rfl
      | some y => cases h1
    | some x => cases v' with
      | none => cases h1
      | some y => rw [hq x y h1]
noncomputable def beqE : List IEnt → List IEnt → Bool
  | [], [] => true
  | x :: r, y :: s => cond (beqDeep x.key y.key) (cond (beqDeep x.val y.val) (cond (Nat.beq x.born y.born) (beqE r s) false) false) false
  | _, _ => false
theorem beqE_eq : ∀ {x y : List IEnt}, beqE x y = true → x = y
  | [], [], _ => rfl
  | [], _ :: _, h => by cases h
  | _ :: _, [], h => by cases h
  | ⟨a, b, c⟩ :: r, ⟨a', b', c'⟩ :: s, h => by
    unfold beqE at h
    obtain ⟨h1, h⟩ := Go.Fg.cond_true h
    obtain ⟨h2, h⟩ := Go.Fg.cond_true h
    obtain ⟨h3, h4⟩ := Go.Fg.cond_true h
    rw [beqE_eq h4]
    have e1 := beqDeep_eq _ h1
    have e2 := beqDeep_eq _ h2
    have e3 := Nat.eq_of_beq_eq_true h3
    simp only [] at e1 e2 e3
    rw [e1, e2, e3]
noncomputable def beqB : Blk → Blk → Bool
  | .cells n l, .cells m k => cond (Nat.beq n m) (beqDeeps l k) false
  | .rc n l, .rc m k => cond (Nat.beq n m) (beqDeeps l k) false
  | .map e c, .map f d => cond (Nat.beq c d) (beqE e f) false
  | .rm e c, .rm f d => cond (Nat.beq c d) (beqE e f) false
  | _, _ => false
theorem beqB_eq : ∀ x y : Blk, beqB x y = true → x = y := fun x y h => by
  cases x <;> cases y <;> first | (cases h; done) | (obtain ⟨h1, h2⟩ := Go.Fg.cond_true h; have e1 := Nat.eq_of_beq_eq_true h1; first | (have e2 := beqDeeps_eq _ h2; subst e1; subst e2; rfl) | (have e2 := beqE_eq h2; subst e1; subst e2; rfl))
def beqN : List Nat → List Nat → Bool
  | [], [] => true
  | x :: r, y :: s => cond (Nat.beq x y) (beqN r s) false
  | _, _ => false
theorem beqN_eq : ∀ {x y : List Nat}, beqN x y = true → x = y
  | [], [], _ => rfl
  | [], _ :: _, h => by cases h
  | _ :: _, [], h => by cases h
  | x :: r, y :: s, h => by
    obtain ⟨h1, h2⟩ := Go.Fg.cond_true h
    rw [Nat.eq_of_beq_eq_true h1, beqN_eq h2]
noncomputable def beqI : Its → Its → Bool
  | [], [] => true
  | x :: r, y :: s => cond (Pos.eq x.1 y.1) (cond (Pos.eq x.2.m y.2.m) (cond (Nat.beq x.2.since y.2.since) (cond (beqN x.2.seen y.2.seen) (cond (Nat.beq x.2.last y.2.last) (cond (x.2.ex == y.2.ex) (beqI r s) false) false) false) false) false) false
  | _, _ => false
theorem beqI_eq : ∀ {x y : Its}, beqI x y = true → x = y
  | [], [], _ => rfl
  | [], _ :: _, h => by cases h
  | _ :: _, [], h => by cases h
  | ⟨p, m, a, b, c, d⟩ :: r, ⟨p', m', a', b', c', d'⟩ :: s, h => by
    unfold beqI at h
    obtain ⟨h1, h⟩ := Go.Fg.cond_true h
    obtain ⟨h2, h⟩ := Go.Fg.cond_true h
    obtain ⟨h3, h⟩ := Go.Fg.cond_true h
    obtain ⟨h4, h⟩ := Go.Fg.cond_true h
    obtain ⟨h5, h⟩ := Go.Fg.cond_true h
    obtain ⟨h6, h7⟩ := Go.Fg.cond_true h
    have e1 := Pos.eq_true h1
    have e2 := Pos.eq_true h2
    have e3 := Nat.eq_of_beq_eq_true h3
    have e4 := beqN_eq h4
    have e5 := Nat.eq_of_beq_eq_true h5
    have e6 : d = d' := by simpa using h6
    have e7 := beqI_eq h7
    simp only [] at e1 e2 e3 e4 e5
    rw [e1, e2, e3, e4, e5, e6, e7]
noncomputable def beqU (u v : USt) : Bool := cond (beqP (fun x y => beqDeep x y) u.s.τ v.s.τ) (cond (beqP (fun x y => beqB x y) u.s.h.t v.s.h.t) (cond (Pos.eq u.s.h.next v.s.h.next) (cond (beqI u.s.its v.s.its) (beqPs u.unk v.unk) false) false) false) false where
  beqPs : List Pos → List Pos → Bool
  | [], [] => true
  | x :: r, y :: s => cond (Pos.eq x y) (beqPs r s) false
  | _, _ => false
theorem beqPs_eq : ∀ {x y : List Pos}, beqU.beqPs x y = true → x = y
  | [], [], _ => rfl
  | [], _ :: _, h => by cases h
  | _ :: _, [], h => by cases h
  | x :: r, y :: s, h => by
    obtain ⟨h1, h2⟩ := Go.Fg.cond_true (show cond (Pos.eq x y) (beqU.beqPs r s) false = true from h)
    rw [Pos.eq_true h1, beqPs_eq h2]
theorem beqU_eq {u v : USt} (h : beqU u v = true) : u = v := by
  unfold beqU at h
  obtain ⟨h1, h⟩ := Go.Fg.cond_true h
  obtain ⟨h2, h⟩ := Go.Fg.cond_true h
  obtain ⟨h3, h⟩ := Go.Fg.cond_true h
  obtain ⟨h4, h5⟩ := Go.Fg.cond_true h
  obtain ⟨⟨τ, ⟨t, n⟩, its⟩, unk⟩ := u
  obtain ⟨⟨τ', ⟨t', n'⟩, its'⟩, unk'⟩ := v
  have e1 : τ = τ' := beqP_eq (fun x y h => beqDeep_eq _ h) h1
  have e2 : t = t' := beqP_eq (fun x y h => beqB_eq _ _ h) h2
  have e3 : n = n' := Pos.eq_true h3
  have e4 : its = its' := beqI_eq h4
  have e5 : unk = unk' := beqPs_eq h5
  rw [e1, e2, e3, e4, e5]
end Go.Fg
/- Code whose states may have unknown temporaries: definitions (but for loops over maps). -/
namespace Go.Fg

inductive UOut where
  | nrm (u : USt)
  | ret (u : USt)
  | exit (id : Nat) (u : USt)
inductive UCode where
  | skip
  | ops (l : List UOp)
  | draw (l : List (UOp × List Nat))
  | seq (a b : UCode)
  | cond (c : Od) (rd : List Pos) (a b : UCode)
  | block (id : Nat) (b : UCode)
  | loop (b : UCode)
  | mloop (d : Option Pos) (x : Od) (rd : List Pos) (F : List Pos) (r : List UOp) (b : UCode)   -- the first operation of its body is 'next'; r and b are the rest of the body
  | exit (id : Nat)
  | ret
  | bad
def readyU (done : List Nat) : Nat → List (UOp × List Nat) → List (Nat × UOp)
  | _, [] => []
  | i, x :: r => cond (!(hasN i done) && subN x.2 done) ((i, x.1) :: readyU done (i + 1) r) (readyU done (i + 1) r)
noncomputable def anyU (cf : CallT) (l : List (UOp × List Nat)) : Nat → List Nat → USt → Option (List USt)
  | 0, done, s => cond (isNil (readyU done 0 l)) (some [s]) none
  | n + 1, done, s => cond (isNil (readyU done 0 l)) (some [s]) (bindAll (fun (x : Nat × UOp) => match stepU cf s x.2 with
    | some L => bindAll (anyU cf l n (x.1 :: done)) L
    | none => none) (readyU done 0 l))
def thenU (k : USt → Option (List UOut)) : UOut → Option (List UOut)
  | .nrm s => k s
  | o => some [o]
def blockU (id : Nat) : UOut → UOut
  | .exit k s => cond (Nat.beq k id) (.nrm s) (.exit k s)
  | o => o
def seqU (x : Option (List UOut)) (k : USt → Option (List UOut)) : Option (List UOut) := match x with
  | some L => bindAll (thenU k) L
  | none => none
def loopU (body : USt → Option (List UOut)) : Nat → USt → Option (List UOut)
  | 0, _ => none
  | n + 1, s => seqU (body s) (loopU body n)
end Go.Fg
/- Loops over maps whose states recur: how the states are found. -/
namespace Go.Fg

/-- What stays the same while such a loop runs: the iterator, its map's entries, the first young name, the temporaries that are forgotten. -/
structure Mx where
  p : Pos
  it : It
  es : List IEnt
  N : Pos
  F : List Pos
noncomputable def delIt (p : Pos) : Its → Its
  | [] => []
  | e :: r => cond (Pos.eq p e.1) (delIt p r) (e :: delIt p r)
noncomputable def isPt (p : Pos) : IV → Bool
  | .p q n => cond (Nat.beq n 0) (Pos.eq p q) false
  | _ => false
noncomputable def sameMap (es : List IEnt) (c : Nat) : Option (List IEnt × Nat) → Bool
  | some (es', c') => cond (Nat.beq c c') (beqE es' es) false
  | none => false
noncomputable def isSomeI : Option It → Bool
  | some _ => true
  | none => false
/-- Is this a state at the loop's head? -/
noncomputable def okHead (x : Od) (X : Mx) (v : USt) : Bool := cond (isPt X.p (x.ev v.s.τ)) (cond (isSomeI (getIt X.p v.s.its)) (sameMap X.es X.it.last (mapOf (v.s.h.get X.it.m))) false) false
noncomputable def headU (x : Od) (X : Mx) (u : USt) : Option USt := match gcU X.N X.F ⟨⟨u.s.τ, u.s.h, setIt X.p X.it u.s.its⟩, u.unk⟩ with
  | some v => cond (okHead x X v) (some v) none
  | none => none
noncomputable def sameIt (it : It) (X : Mx) (sn : List Nat) (ex : Bool) : Bool := cond (Pos.eq it.m X.it.m) (cond (Nat.beq it.since X.it.since) (cond (Nat.beq it.last X.it.last) (cond (beqN it.seen sn) (cond ex it.ex (notB it.ex)) false) false) false) false
noncomputable def backU (x : Od) (X : Mx) (ex : Bool) (sn : List Nat) (u : USt) : Option USt := match getIt X.p u.s.its with
  | some it => cond (sameIt it X sn ex) (headU x X u) none
  | none => none
noncomputable def pickU (X : Mx) (d : Option Pos) (u : USt) (c : Option IEnt) : USt := ⟨nextT u.s d X.p X.it X.it.last c, delO d u.unk⟩

structure Acc where
  SS : List USt
  ED : List (Nat × Nat × Nat)
  OUT : List UOut
noncomputable def idxU (v : USt) : List USt → Nat → Option Nat
  | [], _ => none
  | u :: r, n => cond (beqU u v) (some n) (idxU v r (n + 1))
noncomputable def addO (x : Od) (X : Mx) (i b : Nat) (A : Acc) : UOut → Option Acc
  | .nrm u => match backU x X false [b] u with
    | some v => match idxU v A.SS 0 with
      | some j => some ⟨A.SS, (i, b, j) :: A.ED, A.OUT⟩
      | none => some ⟨A.SS ++ [v], (i, b, A.SS.length) :: A.ED, A.OUT⟩
    | none => none
  | o => some ⟨A.SS, A.ED, o :: A.OUT⟩
noncomputable def addOs (x : Od) (X : Mx) (i b : Nat) : List UOut → Acc → Option Acc
  | [], A => some A
  | o :: r, A => match addO x X i b A o with
    | some B => addOs x X i b r B
    | none => none
noncomputable def addE (k : USt → Option (List UOut)) (x : Od) (X : Mx) (d : Option Pos) (i : Nat) (u : USt) : List IEnt → Acc → Option Acc
  | [], A => some A
  | e :: r, A => match k (pickU X d u (some e)) with
    | some L => match addOs x X i e.born L A with
      | some B => addE k x X d i u r B
      | none => none
    | none => none
noncomputable def explore (k : USt → Option (List UOut)) (x : Od) (X : Mx) (d : Option Pos) : Nat → Nat → Acc → Option Acc
  | 0, _, _ => none
  | n + 1, i, A => match A.SS[i]? with
    | none => some A
    | some u => match addE k x X d i u X.es A with
      | some B => explore k x X d n (i + 1) B
      | none => none
/-! When the end is possible. -/
def stepR (ED : List (Nat × Nat × Nat)) (R : List Nat) : List Nat := ED.foldr (fun t R => cond (hasN t.2.2 R) (cond (hasN t.1 R) R (t.1 :: R)) R) R
def reachR (ED : List (Nat × Nat × Nat)) : Nat → List Nat → List Nat
  | 0, R => R
  | n + 1, R => reachR ED n (stepR ED R)
def closedR (ED : List (Nat × Nat × Nat)) (R : List Nat) : Bool := ED.all fun t => cond (hasN t.2.2 R) (hasN t.1 R) true
def mayEnd (ED : List (Nat × Nat × Nat)) (es : List IEnt) (R : List Nat) : Bool := es.all fun e => ED.any fun t => cond (Nat.beq t.2.1 e.born) (hasN t.2.2 R) false
def notNrm : UOut → Bool
  | .nrm _ => false
  | _ => true
noncomputable def endU (k : USt → Option (List UOut)) (X : Mx) (d : Option Pos) (ED : List (Nat × Nat × Nat)) (n i : Nat) (u : USt) : Option (List UOut) :=
  cond (cond (hasN i (reachR ED n [i])) (closedR ED (reachR ED n [i])) false) (cond (mayEnd ED X.es (reachR ED n [i])) (match k (pickU X d u none) with
    | some L => cond (L.all notNrm) (some L) none
    | none => none) (some [])) none
noncomputable def endsU (k : USt → Option (List UOut)) (X : Mx) (d : Option Pos) (ED : List (Nat × Nat × Nat)) (n : Nat) : Nat → List USt → Option (List UOut)
  | _, [] => some []
  | i, u :: r => match endU k X d ED n i u, endsU k X d ED n (i + 1) r with
    | some a, some b => some (a ++ b)
    | _, _ => none
noncomputable def dropU (p : Pos) (u : USt) : USt := ⟨⟨u.s.τ, u.s.h, delIt p u.s.its⟩, u.unk⟩
noncomputable def dropO (p : Pos) : UOut → UOut
  | .nrm u => .nrm (dropU p u)
  | .ret u => .ret (dropU p u)
  | .exit k u => .exit k (dropU p u)
noncomputable def mrunU (k : USt → Option (List UOut)) (x : Od) (X : Mx) (d : Option Pos) (v : USt) : Option (List UOut) := match explore k x X d 100000 0 ⟨[v], [], []⟩ with
  | some A => match endsU k X d A.ED A.SS.length 0 A.SS with
    | some B => some ((A.OUT ++ B).map (dropO X.p))
    | none => none
  | none => none
noncomputable def mloopU (k : USt → Option (List UOut)) (d : Option Pos) (x : Od) (rd F : List Pos) (u : USt) : Option (List UOut) := cond (noneIn rd F) (match x.ev u.s.τ with
  | .p p 0 => match getIt p u.s.its with
    | some it => match mapOf (u.s.h.get it.m) with
      | some (es, _) => cond (es.all fun e => cond (Nat.blt e.born it.since) (Nat.blt e.born it.last) false)
          (match backU x ⟨p, ⟨it.m, it.since, [], it.last, false⟩, es, u.s.h.next, F⟩ true [] u with
            | some v => mrunU k x ⟨p, ⟨it.m, it.since, [], it.last, false⟩, es, u.s.h.next, F⟩ d v
            | none => none) none
      | none => none
    | none => none
  | _ => none) none

/-! What is found is closed. -/
section
variable {k : USt → Option (List UOut)} {x : Od} {X : Mx} {d : Option Pos}
structure Acc.le (A B : Acc) : Prop where
  ss : ∀ (j : Nat) (v : USt), A.SS[j]? = some v → B.SS[j]? = some v
  ed : ∀ t ∈ A.ED, t ∈ B.ED
  out : ∀ o ∈ A.OUT, o ∈ B.OUT
theorem Acc.le.refl (A : Acc) : A.le A := ⟨fun _ _ h => h, fun _ h => h, fun _ h => h⟩
theorem Acc.le.trans {A B C : Acc} (h : A.le B) (g : B.le C) : A.le C := ⟨fun j v k => g.ss j v (h.ss j v k), fun t k => g.ed t (h.ed t k), fun o k => g.out o (h.out o k)⟩
def OkO (x : Od) (X : Mx) (A : Acc) (i b : Nat) : UOut → Prop
  | .nrm u => ∃ v j, backU x X false [b] u = some v ∧ A.SS[j]? = some v ∧ (i, b, j) ∈ A.ED
  | .ret u => .ret u ∈ A.OUT
  | .exit k u => .exit k u ∈ A.OUT
theorem OkO.mono {A B : Acc} (g : A.le B) {i b : Nat} {o : UOut} (h : OkO x X A i b o) : OkO x X B i b o := by
  cases o with
  | nrm u => obtain ⟨v, j, h1, h2, h3⟩ := h; exact ⟨v, j, h1, g.ss _ _ h2, g.ed _ h3⟩
  | ret u => exact g.out _ h
  | exit k u => exact g.out _ h
def OkE (k : USt → Option (List UOut)) (x : Od) (X : Mx) (d : Option Pos) (A : Acc) (i : Nat) (u : USt) (e : IEnt) : Prop := ∃ L, k (pickU X d u (some e)) = some L ∧ ∀ o ∈ L, OkO x X A i e.born o
theorem OkE.mono {A B : Acc} (g : A.le B) {i : Nat} {u : USt} {e : IEnt} (h : OkE k x X d A i u e) : OkE k x X d B i u e := by
  obtain ⟨L, h1, h2⟩ := h
  exact ⟨L, h1, fun o ho => (h2 o ho).mono g⟩
theorem idxU_get {v : USt} : ∀ {l : List USt} {n j : Nat}, idxU v l n = some j → n ≤ j ∧ l[j - n]? = some v
  | [], n, j, h => by cases h
  | u :: r, n, j, h => by
    have h : cond (beqU u v) (some n) (idxU v r (n + 1)) = some j := h
    cases c : beqU u v with
    | true => rw [c] at h; cases h; rw [Nat.sub_self]; exact ⟨Nat.le_refl _, by rw [beqU_eq c]; rfl⟩
    | false =>
      rw [c] at h
      obtain ⟨h1, h2⟩ := idxU_get (l := r) h
      refine ⟨by omega, ?_⟩
      rw [show j - n = (j - (n + 1)) + 1 by omega]
      exact h2
theorem addO_ok {A B : Acc} {i b : Nat} {o : UOut} (h : addO x X i b A o = some B) : A.le B ∧ OkO x X B i b o := by
  cases o with
  | nrm u =>
    unfold addO at h
    simp only [] at h
    split at h
    case h_2 => cases h
    rename_i v hv
    split at h
    · rename_i j hj
      cases h
      obtain ⟨_, h2⟩ := idxU_get hj
      exact ⟨⟨fun _ _ h => h, fun _ h => List.mem_cons_of_mem _ h, fun _ h => h⟩, v, j, hv, h2, List.mem_cons_self ..⟩
    · cases h
      refine ⟨⟨fun j w h => ?_, fun _ h => List.mem_cons_of_mem _ h, fun _ h => h⟩, v, A.SS.length, hv, ?_, List.mem_cons_self ..⟩
      · show (A.SS ++ [v])[j]? = some w
        rw [List.getElem?_append_left (List.getElem?_eq_some_iff.1 h).1]; exact h
      · show (A.SS ++ [v])[A.SS.length]? = some v
        simp
  | ret u => cases h; exact ⟨⟨fun _ _ h => h, fun _ h => h, fun _ h => List.mem_cons_of_mem _ h⟩, List.mem_cons_self ..⟩
  | exit k u => cases h; exact ⟨⟨fun _ _ h => h, fun _ h => h, fun _ h => List.mem_cons_of_mem _ h⟩, List.mem_cons_self ..⟩
theorem addOs_ok {i b : Nat} : ∀ {L : List UOut} {A B : Acc}, addOs x X i b L A = some B → A.le B ∧ ∀ o ∈ L, OkO x X B i b o
  | [], A, B, h => by cases h; exact ⟨.refl _, fun o ho => by cases ho⟩
  | o :: r, A, B, h => by
    unfold addOs at h
    split at h
    case h_2 => cases h
    rename_i C hC
    obtain ⟨h1, h2⟩ := addO_ok hC
    obtain ⟨h3, h4⟩ := addOs_ok h
    refine ⟨h1.trans h3, fun q hq => ?_⟩
    rcases List.mem_cons.1 hq with rfl | hq
    · exact h2.mono h3
    · exact h4 q hq
theorem addE_ok {i : Nat} {u : USt} : ∀ {es : List IEnt} {A B : Acc}, addE k x X d i u es A = some B → A.le B ∧ ∀ e ∈ es, OkE k x X d B i u e
  | [], A, B, h => by cases h; exact ⟨.refl _, fun o ho => by cases ho⟩
  | e :: r, A, B, h => by
    unfold addE at h
    split at h
    case h_2 => cases h
    rename_i L hL
    split at h
    case h_2 => cases h
    rename_i C hC
    obtain ⟨h1, h2⟩ := addOs_ok hC
    obtain ⟨h3, h4⟩ := addE_ok h
    refine ⟨h1.trans h3, fun q hq => ?_⟩
    rcases List.mem_cons.1 hq with rfl | hq
    · exact ⟨L, hL, fun o ho => (h2 o ho).mono h3⟩
    · exact h4 q hq
theorem explore_ok : ∀ {n i : Nat} {A B : Acc}, explore k x X d n i A = some B → A.le B ∧ ∀ j v, i ≤ j → B.SS[j]? = some v → ∀ e ∈ X.es, OkE k x X d B j v e
  | 0, i, A, B, h => by cases h
  | n + 1, i, A, B, h => by
    unfold explore at h
    split at h
    · rename_i hn
      cases h
      refine ⟨.refl _, fun j v hj hv => ?_⟩
      rw [List.getElem?_eq_none_iff] at hn
      have := (List.getElem?_eq_some_iff.1 hv).1
      omega
    · rename_i u hu
      split at h
      case h_2 => cases h
      rename_i C hC
      obtain ⟨h1, h2⟩ := addE_ok hC
      obtain ⟨h3, h4⟩ := explore_ok h
      refine ⟨h1.trans h3, fun j v hj hv e he => ?_⟩
      by_cases c : j = i
      · subst c
        have := h3.ss _ _ (h1.ss _ _ hu)
        rw [this] at hv; cases hv
        exact (h2 e he).mono h3
      · exact h4 j v (by omega) hv e he

/-- Ways from the first state. -/
inductive Path (ED : List (Nat × Nat × Nat)) : List Nat → Nat → Prop
  | nil : Path ED [] 0
  | step {g : List Nat} {j b i : Nat} : Path ED g j → (j, b, i) ∈ ED → Path ED (g ++ [b]) i
theorem Path.back {ED : List (Nat × Nat × Nat)} {R : List Nat} (hR : closedR ED R = true) : ∀ {g : List Nat} {i : Nat}, Path ED g i → hasN i R = true → ∀ b ∈ g, ∃ j m, (j, b, m) ∈ ED ∧ hasN m R = true := by
  intro g i h
  induction h with
  | nil => intro _ b hb; cases hb
  | @step g j b i hp he ih =>
    intro hi c hc
    rcases List.mem_append.1 hc with hc | hc
    · refine ih ?_ c hc
      unfold closedR at hR
      have := List.all_eq_true.1 hR _ he
      simp only [hi] at this
      exact this
    · rw [List.mem_singleton.1 hc]
      exact ⟨j, i, he, hi⟩
theorem endsU_get {ED : List (Nat × Nat × Nat)} {n : Nat} : ∀ {l : List USt} {i : Nat} {B : List UOut}, endsU k X d ED n i l = some B → ∀ j u, l[j]? = some u → ∃ M, endU k X d ED n (i + j) u = some M ∧ ∀ o ∈ M, o ∈ B
  | [], i, B, h, j, u, hu => by simp at hu
  | v :: r, i, B, h, j, u, hu => by
    unfold endsU at h
    split at h
    case h_2 => cases h
    rename_i a b ha hb
    cases h
    cases j with
    | zero =>
      have hu : some v = some u := hu
      cases hu
      exact ⟨a, ha, fun o ho => List.mem_append_left _ ho⟩
    | succ j =>
      obtain ⟨M, h1, h2⟩ := endsU_get hb j u hu
      exact ⟨M, by rw [show i + (j + 1) = i + 1 + j by omega]; exact h1, fun o ho => List.mem_append_right _ (h2 o ho)⟩
/-- At the end, with all given: the outcomes are told. -/
theorem endU_ok {ED : List (Nat × Nat × Nat)} {n i : Nat} {u : USt} {M : List UOut} (h : endU k X d ED n i u = some M) {g : List Nat} (hp : Path ED g i) (hg : ∀ e ∈ X.es, e.born ∈ g) : k (pickU X d u none) = some M ∧ ∀ o ∈ M, notNrm o = true := by
  unfold endU at h
  obtain ⟨h1, h⟩ := cond_some h
  obtain ⟨h2, h3⟩ := Go.Fg.cond_true h1
  have : mayEnd ED X.es (reachR ED n [i]) = true := by
    unfold mayEnd
    rw [List.all_eq_true]
    intro e he
    obtain ⟨j, m, k1, k2⟩ := hp.back h3 h2 _ (hg e he)
    rw [List.any_eq_true]
    refine ⟨_, k1, ?_⟩
    simp only [Nat.beq_refl]
    exact k2
  rw [this] at h
  have h : (match k (pickU X d u none) with
    | some L => cond (L.all notNrm) (some L) none
    | none => none) = some M := h
  split at h
  · rename_i L hL
    obtain ⟨h4, h⟩ := cond_some h
    cases h
    exact ⟨hL, fun o ho => List.all_eq_true.1 h4 o ho⟩
  · cases h
end
end Go.Fg
/- Loops over maps whose states recur: the rule is sound. -/
namespace Go.Fg
section
variable {P : Program} {pre pre' : Pos → List Nat} {cf : CallT} {nt : Nat} {ι0 ι : Emb} {H0 : Hp} {w0 w : World} {s : TSt} {u v : USt} {a : Act}

def updP (pre : Pos → List Nat) (p : Pos) (g : List Nat) : Pos → List Nat := fun q => if q = p then g else pre q
theorem updP_eq (pre : Pos → List Nat) (p : Pos) (g : List Nat) : updP pre p g p = g := if_pos rfl
theorem updP_ne {pre : Pos → List Nat} {p q : Pos} {g : List Nat} (h : q ≠ p) : updP pre p g q = pre q := if_neg h
theorem updP_upd (pre : Pos → List Nat) (p : Pos) (g g' : List Nat) : updP (updP pre p g) p g' = updP pre p g' := by
  funext q
  by_cases h : q = p
  · subst h; rw [updP_eq, updP_eq]
  · rw [updP_ne h, updP_ne h, updP_ne h]
theorem setIt_was {p q : Pos} {x jt : It} {its : Its} (h : getIt q (setIt p x its) = some jt) : ∃ jt0, getIt q its = some jt0 := by
  rw [getIt_set] at h
  by_cases d : q = p
  · subst d
    rw [if_pos rfl] at h
    cases c : getIt q its with
    | none => rw [c] at h; cases h
    | some y => exact ⟨y, rfl⟩
  · rw [if_neg d] at h; exact ⟨jt, h⟩
theorem ItsOk.reset {its : Its} {base : Nat} (I : ItsOk pre ι its w base) {p : Pos} {it it' : It} (h : getIt p its = some it) (hm : it'.m = it.m) (hs : it'.since = it.since) (hl : it'.last = it.last) (he : it'.ex = false) (hn : it'.seen = []) :
    ItsOk (updP pre p ((cond it.ex [] (pre p)) ++ it.seen)) ι (setIt p it' its) w base where
  ok q jt hq := by
    rw [getIt_set] at hq
    by_cases d : q = p
    · subst d
      rw [if_pos rfl, h] at hq; cases hq
      obtain ⟨L, Lb, h1, h2, h3, h4, h5⟩ := I.ok q it h
      refine ⟨L, Lb, h1, h2, h3, by rw [hm]; exact h4, ?_⟩
      rw [h5, he, hn, hs, hl, updP_eq]
      simp
    · rw [if_neg d] at hq
      obtain ⟨L, Lb, h1, h2, h3, h4, h5⟩ := I.ok q jt hq
      refine ⟨L, Lb, h1, h2, h3, h4, ?_⟩
      rw [h5, updP_ne d]
  inj q r it1 it2 L M hq hr hL hM e := by
    obtain ⟨j1, u1⟩ := setIt_was hq
    obtain ⟨j2, u2⟩ := setIt_was hr
    exact I.inj q r j1 j2 L M u1 u2 hL hM e
theorem getIt_del (p q : Pos) : ∀ l : Its, getIt q (delIt p l) = if q = p then none else getIt q l
  | [] => by simp [getIt, delIt]
  | e :: r => by
    have ih := getIt_del p q r
    show getIt q (cond (Pos.eq p e.1) (delIt p r) (e :: delIt p r)) = if q = p then none else cond (Pos.eq q e.1) (some e.2) (getIt q r)
    by_cases c : p = e.1
    · rw [← c, Pos.eq_self]
      show getIt q (delIt p r) = _
      rw [ih]
      by_cases d : q = p
      · rw [if_pos d, if_pos d]
      · rw [if_neg d, if_neg d, Pos.eq_no d]; rfl
    · rw [Pos.eq_no c]
      show cond (Pos.eq q e.1) (some e.2) (getIt q (delIt p r)) = _
      by_cases d : q = p
      · subst d; rw [if_pos rfl, Pos.eq_no c]; rw [if_pos rfl] at ih; exact ih
      · rw [if_neg d]; rw [if_neg d] at ih; rw [ih]
theorem ItsOk.drop {its : Its} {base : Nat} (I : ItsOk pre ι its w base) {p : Pos} (hp : ∀ q, q ≠ p → pre' q = pre q) : ItsOk pre' ι (delIt p its) w base where
  ok q jt hq := by
    rw [getIt_del] at hq
    by_cases d : q = p
    · rw [if_pos d] at hq; cases hq
    · rw [if_neg d] at hq
      rw [hp q d]
      exact I.ok q jt hq
  inj q r it1 it2 L M hq hr hL hM e := by
    rw [getIt_del] at hq hr
    by_cases d : q = p
    · rw [if_pos d] at hq; cases hq
    · by_cases d' : r = p
      · rw [if_pos d'] at hr; cases hr
      · rw [if_neg d] at hq; rw [if_neg d'] at hr
        exact I.inj q r it1 it2 L M hq hr hL hM e
theorem TS.its' (T : TS pre nt ι0 H0 w0 ι s a w) {its' : Its} (I : ItsOk pre' ι its' w w0.heap.size) : TS pre' nt ι0 H0 w0 ι ⟨s.τ, s.h, its'⟩ a w := ⟨T.st, T.fin, T.full, T.base, I⟩
theorem TU.drop {p : Pos} {g : List Nat} (T : TU (updP pre p g) nt ι0 H0 w0 ι u a w) : TU pre nt ι0 H0 w0 ι (dropU p u) a w := by
  obtain ⟨b, TB, k⟩ := T
  exact ⟨b, TB.its' (TB.its.drop fun q hq => (updP_ne hq).symm), k⟩

/-- A state at the head. -/
structure HeadF (x : Od) (X : Mx) (v : USt) : Prop where
  ev : x.ev v.s.τ = .p X.p 0
  it : getIt X.p v.s.its = some X.it
  mp : mapOf (v.s.h.get X.it.m) = some (X.es, X.it.last)
  unk : v.unk = X.F
theorem isPt_eq {p : Pos} {y : IV} (h : isPt p y = true) : y = .p p 0 := by
  cases y with
  | p q n =>
    obtain ⟨h1, h2⟩ := Go.Fg.cond_true (show cond (Nat.beq n 0) (Pos.eq p q) false = true from h)
    rw [Nat.eq_of_beq_eq_true h1, Pos.eq_true h2]
  | _ => cases h
theorem sameMap_eq {es : List IEnt} {c : Nat} {o : Option (List IEnt × Nat)} (h : sameMap es c o = true) : o = some (es, c) := by
  cases o with
  | none => cases h
  | some y =>
    obtain ⟨e, d⟩ := y
    obtain ⟨h1, h2⟩ := Go.Fg.cond_true (show cond (Nat.beq c d) (beqE e es) false = true from h)
    rw [beqE_eq h2, Nat.eq_of_beq_eq_true h1]
theorem TU.head {x : Od} {X : Mx} {ex : Bool} {sn : List Nat} (T : TU pre nt ι0 H0 w0 ι u a w) (h : backU x X ex sn u = some v) (hex : X.it.ex = false) (hsn : X.it.seen = []) (hN : H0.next.num ≤ X.N.num) :
    TU (updP pre X.p ((cond ex [] (pre X.p)) ++ sn)) nt ι0 H0 w0 (ι.below X.N.num) v a w ∧ HeadF x X v := by
  unfold backU at h
  cases hit : getIt X.p u.s.its with
  | none => rw [hit] at h; cases h
  | some it =>
  rw [hit] at h
  obtain ⟨h1, hh⟩ := cond_some (show cond (sameIt it X sn ex) (headU x X u) none = some v from h)
  clear h
  unfold sameIt at h1
  obtain ⟨e1, h1⟩ := Go.Fg.cond_true h1
  obtain ⟨e2, h1⟩ := Go.Fg.cond_true h1
  obtain ⟨e3, h1⟩ := Go.Fg.cond_true h1
  obtain ⟨e4, h1⟩ := Go.Fg.cond_true h1
  have e5 : it.ex = ex := by
    cases ex with
    | true => exact h1
    | false => cases c : it.ex with
      | false => rfl
      | true => rw [c] at h1; cases h1
  have e1 := Pos.eq_true e1
  have e2 := Nat.eq_of_beq_eq_true e2
  have e3 := Nat.eq_of_beq_eq_true e3
  have e4 := beqN_eq e4
  subst e4; subst e5
  unfold headU at hh
  cases hy : gcU X.N X.F ⟨⟨u.s.τ, u.s.h, setIt X.p X.it u.s.its⟩, u.unk⟩ with
  | none => rw [hy] at hh; cases hh
  | some y =>
  rw [hy] at hh
  obtain ⟨h2, hh⟩ := cond_some (show cond (okHead x X y) (some y) none = some v from hh)
  cases hh
  obtain ⟨b, TB, k⟩ := T
  have T2 : TU (updP pre X.p ((cond it.ex [] (pre X.p)) ++ it.seen)) nt ι0 H0 w0 ι ⟨⟨u.s.τ, u.s.h, setIt X.p X.it u.s.its⟩, u.unk⟩ a w := ⟨b, TB.its' (TB.its.reset hit e1.symm e2.symm e3.symm hex hsn), k⟩
  refine ⟨gc_sound T2 hN hy, ?_⟩
  unfold okHead at h2
  obtain ⟨h3, h2⟩ := Go.Fg.cond_true h2
  obtain ⟨h4, h5⟩ := Go.Fg.cond_true h2
  refine ⟨isPt_eq h3, ?_, sameMap_eq h5, ?_⟩
  · cases c : getIt X.p v.s.its with
    | none => rw [c] at h4; cases h4
    | some z =>
      unfold gcU at hy
      obtain ⟨_, hy⟩ := cond_some hy
      obtain ⟨_, hy⟩ := cond_some hy
      obtain ⟨_, hy⟩ := cond_some hy
      obtain ⟨_, hy⟩ := cond_some hy
      obtain ⟨_, hy⟩ := cond_some hy
      cases hy
      obtain ⟨_, c⟩ := getIt_cut c
      rw [getIt_set, if_pos rfl, hit] at c
      exact c.symm
  · unfold gcU at hy
    obtain ⟨_, hy⟩ := cond_some hy
    obtain ⟨_, hy⟩ := cond_some hy
    obtain ⟨_, hy⟩ := cond_some hy
    obtain ⟨_, hy⟩ := cond_some hy
    obtain ⟨_, hy⟩ := cond_some hy
    cases hy
    rfl

theorem ghost_U {b : Act} (sz : b.tmps.size = a.tmps.size) (df : a.defers = []) (sm : ∀ t, t < 1000000 → memP (pos t) u.unk = false → a.tmps.getD t undef = b.tmps.getD t undef) {o : Oper} {rd : List Pos} (hrd : posT o.op.operands.toList = some rd) (hn : noneIn rd u.unk = true)
    (hnt : nt ≤ 100000) (hd : ∀ t, o.dst = some t → t < nt) (nsel : ∀ cs b, o.op ≠ .select cs b) {R : TSt → Prop} {K : Act → World → Prop} {Q : Exit → Act → World → Prop}
    (wp : o.wp P b w (fun b' w' => ∃ s', R s' ∧ ∃ ι', TS pre nt ι0 H0 w0 ι' s' b' w') (fun _ _ _ => False)) (hK : ∀ s', R s' → ∀ ι' a' w', TU pre nt ι0 H0 w0 ι' ⟨s', delO (o.dst.map pos) u.unk⟩ a' w' → K a' w') : o.wp P a w K Q := by
  have known : ∀ t, Operand.tmp t ∈ o.op.operands → a.eval (.tmp t) = b.eval (.tmp t) := fun t ht => by
    obtain ⟨h2, h3⟩ := posT_mem hrd t (by simpa using ht)
    unfold noneIn at hn
    have h4 := List.all_eq_true.1 hn _ h3
    exact sm t h2 (by simpa using h4)
  refine wp_ghost (execOp_congr o nsel fun x hx => ?_) wp (fun v w' ⟨s', hs', ι', T'⟩ => ?_) fun d v w' ⟨s', hs', ι', T'⟩ => ?_
  · cases x with
    | tmp t => exact known t hx
    | const v => rfl
    | global g => rfl
    | func f => rfl
  · refine hK _ hs' ι' _ w' ⟨b.put o.dst v, T', ?_, ?_, fun t ht hm => ?_⟩
    · cases o.dst <;> simp [Act.put, sz]
    · cases o.dst <;> exact df
    · cases ho : o.dst with
      | none => rw [ho] at hm; exact sm t ht hm
      | some k =>
        rw [ho] at hm
        have hk : k < 1000000 := Nat.lt_of_lt_of_le (hd k ho) (by omega)
        show (a.tmps.setIfInBounds k v).getD t undef = (b.tmps.setIfInBounds k v).getD t undef
        by_cases e : t = k
        · subst e
          simp only [Array.getD_eq_getD_getElem?, Array.getElem?_setIfInBounds, if_true, sz]
          first | done | (split <;> simp_all)
        · have h5 : memP (pos t) u.unk = false := by
            cases q : memP (pos t) u.unk with
            | false => rfl
            | true =>
              have : memP (pos t) (delP (pos k) u.unk) = true := memP_del.2 ⟨fun c => e (pos_inj ht hk c), q⟩
              have hm : memP (pos t) (delP (pos k) u.unk) = false := hm
              rw [this] at hm; cases hm
          have := sm t ht h5
          simpa [Array.getD_eq_getD_getElem?, Array.getElem?_setIfInBounds_ne (Ne.symm e)] using this
  · have := T'.st.def_
    cases ho : o.dst <;> (rw [ho] at this; cases this)

/-- A step of the iterator at the head. -/
theorem head_TS {x : Operand} {y : Od} {X : Mx} (hnt : nt ≤ 100000) (T : TS pre nt ι0 H0 w0 ι s a w) (hp : y.ev s.τ = .p X.p 0) (hit : getIt X.p s.its = some X.it) (hm : mapOf (s.h.get X.it.m) = some (X.es, X.it.last)) (hex : X.it.ex = false) (hsn : X.it.seen = [])
    (hb : ∀ e ∈ X.es, e.born < X.it.since ∧ e.born < X.it.last) {o : Oper} {d : Option Pos} (hd : dstT nt o.dst = some d) (ho : o.op = .next x false) (hx : od x = some y) {K : Act → World → Prop} {Q : Exit → Act → World → Prop}
    (hN : (∀ e ∈ X.es, e.born ∈ pre X.p) → ∀ ι' a' w', TS pre nt ι0 H0 w0 ι' (nextT s d X.p X.it X.it.last none) a' w' → K a' w')
    (hS : ∀ e ∈ X.es, e.born ∉ pre X.p → ∀ ι' a' w', TS pre nt ι0 H0 w0 ι' (nextT s d X.p X.it X.it.last (some e)) a' w' → K a' w') : o.wp P a w K Q := by
  obtain ⟨rfl, h2⟩ := dstT_some hd
  have hv := od_sound T.st.tr hx
  rw [hp] at hv
  obtain ⟨M, Lb, m1, m2, m3, m4, m5⟩ := T.its.ok X.p X.it hit
  rw [hex, hsn, show (cond false [] (pre X.p) : List Nat) = pre X.p from rfl, List.append_nil] at m5
  obtain ⟨M', hM', hx'⟩ := vr_p hv
  rw [m1] at hM'; cases hM'
  rw [m2] at hx'
  obtain ⟨es', k1, k2⟩ := map_sound T.st.hr hm m4
  have hok : (!(pre X.p).toArray.isEmpty && !es'.isEmpty && es'.all (fun e => decide (e.born ≥ X.it.last))) = false := by
    rw [Bool.and_eq_false_iff]
    by_cases c : es' = #[]
    · subst c; left; simp
    · right
      obtain ⟨e', he'⟩ : ∃ e', e' ∈ es' := by
        rcases Nat.eq_zero_or_pos es'.size with h | h
        · exact absurd (Array.eq_empty_of_size_eq_zero h) c
        · exact ⟨es'[0], Array.getElem_mem h⟩
      obtain ⟨e, q1, q2, q3, q4⟩ := ers_mem k2 (show e' ∈ es'.toList by simpa using he')
      rw [Array.all_eq_false]
      obtain ⟨i, hi, hie⟩ := Array.mem_iff_getElem.1 he'
      refine ⟨i, hi, ?_⟩
      rw [hie, ← q4]
      have := (hb e q1).2
      simp; omega
  obtain ⟨i, w', g1, g2, g3⟩ := next_run (P := P) ho hx' m5 k1 hok
  unfold Oper.wp
  rcases g3 with ⟨g3, g4⟩ | ⟨e', g3, g4⟩
  · rw [g4, Oper.upon_value]
    have hw' : w'.heap = w.heap.setIfInBounds M.r (.mapIter (some Lb.r) X.it.since (pre X.p).toArray X.it.last) := by
      rw [g1]; symm
      apply Array.ext
      · simp
      · intro j h1 h2
        rw [Array.getElem_setIfInBounds]
        split
        · rename_i e; subst e
          have := Array.getElem?_eq_some_iff.1 m5
          obtain ⟨_, this⟩ := this
          exact this.symm
        · rfl
    have F := T.fin.touch m5 m3 hw' g2
    refine hN (fun e he => ?_) ι _ w' { st := T.st.put' hnt (Emb.le.refl _) F.hr h2 (.tup _ _ (.cons _ _ _ _ (.b _) .nil)), fin := F, full := T.full, base := T.base, its := ?_ }
    · have hc : none ∈ candsI X.es X.it.since (pre X.p) := mem_cands k2 g3
      unfold candsI at hc
      rw [List.mem_append] at hc
      rcases hc with hc | hc
      · cases c : isNil ((leftI X.es (pre X.p)).filter fun e => Nat.blt e.born X.it.since) with
        | false => rw [c] at hc; cases hc
        | true =>
          have c := isNil_iff.1 c
          rw [List.eq_nil_iff_forall_not_mem] at c
          have c := c e
          rw [List.mem_filter] at c
          have hlt : Nat.blt e.born X.it.since = true := Nat.ble_eq_true_of_le (hb e he).1
          have : e ∉ leftI X.es (pre X.p) := fun q => c ⟨q, hlt⟩
          unfold leftI at this
          rw [List.mem_filter] at this
          cases q : hasN e.born (pre X.p) with
          | true => exact hasN_iff.1 q
          | false => exact absurd ⟨he, by rw [q]; rfl⟩ this
      · rw [List.mem_map] at hc
        obtain ⟨_, _, hc⟩ := hc
        cases hc
    · exact ⟨fun q jt h => by rw [g1]; exact T.its.ok q jt h, T.its.inj⟩
  · rw [g4, Oper.upon_value]
    obtain ⟨e, c1, c2, c3, c4⟩ := mem_cands k2 g3
    have hsz := (Array.getElem?_eq_some_iff.1 m5).1
    have F := T.fin.touch (w' := { w' with heap := w.heap.setIfInBounds M.r (.mapIter (some Lb.r) X.it.since ((pre X.p).toArray.push e'.born) X.it.last) }) m5 m3 rfl ⟨g2.1, g2.2.1, g2.2.2.1, fun b => by
      rw [← g2.2.2.2 b]
      unfold World.frozen?
      rw [g1]
      by_cases hb : b.block = M.r
      · rw [hb, m5, Array.getElem?_setIfInBounds_self_of_lt hsz]
      · rw [Array.getElem?_setIfInBounds_ne (Ne.symm hb)]⟩
    have hmem : e ∈ X.es ∧ e.born ∉ pre X.p := by
      unfold candsI at c1
      rw [List.mem_append] at c1
      rcases c1 with c1 | c1
      · exfalso
        cases c : isNil ((leftI X.es (pre X.p)).filter fun e => Nat.blt e.born X.it.since) with
        | false => rw [c] at c1; cases c1
        | true => rw [c] at c1; cases List.mem_singleton.1 c1
      · rw [List.mem_map] at c1
        obtain ⟨e2, c1, c5⟩ := c1
        cases c5
        have : e ∈ leftI X.es (pre X.p) := by
          rw [List.mem_append, List.mem_filter, List.mem_filter] at c1
          rcases c1 with c1 | c1
          · exact c1.1
          · exact c1.1
        unfold leftI at this
        rw [List.mem_filter] at this
        refine ⟨this.1, fun q => ?_⟩
        rw [hasN_iff.2 q] at this
        exact absurd this.2 (by simp)
    refine hS e hmem.1 hmem.2 ι _ _ { st := T.st.put' hnt (Emb.le.refl _) F.hr h2 (.tup _ _ (.cons _ _ _ _ (.b _) (.cons _ _ _ _ c2 (.cons _ _ _ _ c3 .nil)))), fin := F, full := T.full, base := T.base, its := ?_ }
    have get : ∀ q jt, getIt q (setIt X.p (stepIt X.it X.it.last e.born) s.its) = some jt → (q = X.p ∧ jt = stepIt X.it X.it.last e.born) ∨ (q ≠ X.p ∧ getIt q s.its = some jt) := fun q jt h => by
      rw [getIt_set] at h
      by_cases d : q = X.p
      · rw [if_pos d, hit] at h; cases h; exact .inl ⟨d, rfl⟩
      · rw [if_neg d] at h; exact .inr ⟨d, h⟩
    constructor
    · intro q jt h
      rcases get q jt h with ⟨rfl, rfl⟩ | ⟨hne, h⟩
      · refine ⟨M, Lb, m1, m2, m3, m4, ?_⟩
        show (w.heap.setIfInBounds M.r _)[M.r]? = some (.mapIter (some Lb.r) X.it.since ((cond X.it.ex [] (pre X.p)) ++ (X.it.seen ++ [e.born])).toArray X.it.last)
        rw [hex, hsn, show (cond false [] (pre X.p) : List Nat) = pre X.p from rfl]
        rw [Array.getElem?_setIfInBounds_self_of_lt hsz, c4]; simp
      · obtain ⟨N, Nb, n1, n2, n3, n4, n5⟩ := T.its.ok q jt h
        refine ⟨N, Nb, n1, n2, n3, n4, ?_⟩
        show (w.heap.setIfInBounds M.r _)[N.r]? = _
        rw [Array.getElem?_setIfInBounds_ne fun e => hne (T.its.inj q X.p jt X.it N M h hit n1 m1 e.symm)]
        exact n5
    · intro q r it1 it2 N1 N2 hq hr e1 e2 e3
      obtain ⟨j1, u1⟩ := setIt_was hq
      obtain ⟨j2, u2⟩ := setIt_was hr
      exact T.its.inj q r j1 j2 N1 N2 u1 u2 e1 e2 e3
theorem head_step {x : Operand} {y : Od} {X : Mx} (hnt : nt ≤ 100000) (T : TU pre nt ι0 H0 w0 ι v a w) (HF : HeadF y X v) (hex : X.it.ex = false) (hsn : X.it.seen = [])
    (hb : ∀ e ∈ X.es, e.born < X.it.since ∧ e.born < X.it.last) {o : Oper} {d : Option Pos} (hd : dstT nt o.dst = some d) (ho : o.op = .next x false) (hx : od x = some y) {rd : List Pos} (hrd : posT o.op.operands.toList = some rd) (hn : noneIn rd X.F = true) {K : Act → World → Prop} {Q : Exit → Act → World → Prop}
    (hN : (∀ e ∈ X.es, e.born ∈ pre X.p) → ∀ ι' a' w', TU pre nt ι0 H0 w0 ι' (pickU X d v none) a' w' → K a' w')
    (hS : ∀ e ∈ X.es, e.born ∉ pre X.p → ∀ ι' a' w', TU pre nt ι0 H0 w0 ι' (pickU X d v (some e)) a' w' → K a' w') : o.wp P a w K Q := by
  obtain ⟨b, TB, sz, df, sm⟩ := T
  have hdd := dstT_some hd
  refine ghost_U (u := v) (pre := pre) (ι0 := ι0) (H0 := H0) (w0 := w0) sz df sm hrd (by rw [HF.unk]; exact hn) hnt hdd.2 (fun cs b e => by rw [ho] at e; cases e)
    (R := fun s' => (s' = nextT v.s d X.p X.it X.it.last none ∧ ∀ e ∈ X.es, e.born ∈ pre X.p) ∨ ∃ e ∈ X.es, e.born ∉ pre X.p ∧ s' = nextT v.s d X.p X.it X.it.last (some e))
    (head_TS hnt TB HF.ev HF.it HF.mp hex hsn hb hd ho hx (fun hall ι' a' w' T' => ⟨_, .inl ⟨rfl, hall⟩, ι', T'⟩) fun e he hne ι' a' w' T' => ⟨_, .inr ⟨e, he, hne, rfl⟩, ι', T'⟩) fun s' hR ι' a' w' T' => ?_
  rw [← hdd.1] at T'
  rcases hR with ⟨rfl, hall⟩ | ⟨e, he, hne, rfl⟩
  · exact hN hall ι' a' w' T'
  · exact hS e he hne ι' a' w' T'

/-- How a piece of code comes out. -/
def LandU (pre : Pos → List Nat) (nt : Nat) (ι0 : Emb) (H0 : Hp) (w0 : World) : UOut → Exit → Act → World → Prop
  | .nrm u, e, a, w => e = .normal ∧ ∃ ι, TU pre nt ι0 H0 w0 ι u a w
  | .ret u, e, a, w => e = .ret ∧ ∃ ι, TU pre nt ι0 H0 w0 ι u a w
  | .exit id u, e, a, w => e = .exit id ∧ ∃ ι, TU pre nt ι0 H0 w0 ι u a w
def LandsU (pre : Pos → List Nat) (nt : Nat) (ι0 : Emb) (H0 : Hp) (w0 : World) (L : List UOut) (e : Exit) (a : Act) (w : World) : Prop := ∃ o ∈ L, LandU pre nt ι0 H0 w0 o e a w

theorem left_less {es : List IEnt} {g : List Nat} {e : IEnt} (he : e ∈ es) (hne : e.born ∉ g) : (leftI es (g ++ [e.born])).length < (leftI es g).length := by
  have h1 : leftI es (g ++ [e.born]) = (leftI es g).filter fun x => !hasN x.born [e.born] := by
    unfold leftI
    rw [List.filter_filter]
    apply List.filter_congr
    intro x _
    have : hasN x.born (g ++ [e.born]) = (hasN x.born [e.born] || hasN x.born g) := by
      rw [Bool.eq_iff_iff, Bool.or_eq_true, hasN_iff, hasN_iff, hasN_iff, List.mem_append]
      exact Or.comm
    rw [this]
    cases hasN x.born [e.born] <;> rfl
  rw [h1, List.length_filter_lt_length_iff_exists]
  refine ⟨e, ?_, ?_⟩
  · unfold leftI
    rw [List.mem_filter]
    refine ⟨he, ?_⟩
    cases c : hasN e.born g with
    | false => rfl
    | true => exact absurd (hasN_iff.1 c) hne
  · simp [hasN]

/-- LOOPS OVER MAPS WHOSE STATES RECUR. -/
theorem mloop_sound (hnt : nt ≤ 100000) {id : Nat} {ops : Array Oper} {y : Code} {o : Oper} {rest : List Oper} (hops : ops.toList = o :: rest) (hg : o.guard = none) {d : Option Pos} (hd : dstT nt o.dst = some d) {x : Operand} (ho : o.op = .next x false) {z : Od} (hx : od x = some z)
    {rd F : List Pos} (hrd : posT o.op.operands.toList = some rd) {k : USt → Option (List UOut)}
    (hk : ∀ {pre : Pos → List Nat} {ι : Emb} {u : USt} {a : Act} {w : World} {L : List UOut}, TU pre nt ι0 H0 w0 ι u a w → k u = some L → ∀ {Q : Exit → Act → World → Prop}, (∀ e a' w', LandsU pre nt ι0 H0 w0 L e a' w' → Q e a' w') → wpOps P ops (Exit.then (fun a w => y.wp P Q a w) Q) (List.range' 1 rest.length) a w)
    (T : TU pre nt ι0 H0 w0 ι u a w) {L : List UOut} (h : mloopU k d z rd F u = some L) : (Code.loop (.seq (.region id ops false) y)).wp P (LandsU pre nt ι0 H0 w0 L) a w := by
  unfold mloopU at h
  obtain ⟨hn, h⟩ := cond_some h
  split at h
  case h_2 => cases h
  rename_i p hp
  split at h
  case h_2 => cases h
  rename_i it hit
  split at h
  case h_2 => cases h
  rename_i es c hm
  obtain ⟨hb, h⟩ := cond_some h
  split at h
  case h_2 => cases h
  rename_i v hv
  generalize hX : (⟨p, ⟨it.m, it.since, [], it.last, false⟩, es, u.s.h.next, F⟩ : Mx) = X at h hv
  have hXp : X.p = p := by rw [← hX]
  have hXe : X.it.ex = false := by rw [← hX]
  have hXs : X.it.seen = [] := by rw [← hX]
  have hXF : X.F = F := by rw [← hX]
  have hXN : H0.next.num ≤ X.N.num := by
    obtain ⟨b, TB, _⟩ := T
    rw [← hX]; exact TB.fin.up
  have hXb : ∀ e ∈ X.es, e.born < X.it.since ∧ e.born < X.it.last := by
    intro e he
    rw [← hX] at he ⊢
    have := List.all_eq_true.1 hb e he
    obtain ⟨h1, h2⟩ := Go.Fg.cond_true this
    exact ⟨Nat.le_of_ble_eq_true h1, Nat.le_of_ble_eq_true h2⟩
  unfold mrunU at h
  split at h
  case h_2 => cases h
  rename_i A hA
  split at h
  case h_2 => cases h
  rename_i B hB
  cases h
  obtain ⟨le, cl⟩ := explore_ok hA
  obtain ⟨T1, HF1⟩ := T.head hv hXe hXs hXN
  have fin : ∀ {g : List Nat} {q : UOut} {e : Exit} {a' : Act} {w' : World}, (q ∈ A.OUT ∨ q ∈ B) → LandU (updP pre X.p g) nt ι0 H0 w0 q e a' w' → LandsU pre nt ι0 H0 w0 ((A.OUT ++ B).map (dropO X.p)) e a' w' := fun {g q e a' w'} hq hl => by
    refine ⟨dropO X.p q, List.mem_map.2 ⟨q, List.mem_append.2 hq, rfl⟩, ?_⟩
    cases q with
    | nrm u => obtain ⟨h1, ι', h2⟩ := hl; exact ⟨h1, ι', h2.drop⟩
    | ret u => obtain ⟨h1, ι', h2⟩ := hl; exact ⟨h1, ι', h2.drop⟩
    | exit k u => obtain ⟨h1, ι', h2⟩ := hl; exact ⟨h1, ι', h2.drop⟩
  have key : ∀ (n : Nat) {g : List Nat} {i : Nat} {v : USt} {ι : Emb} {a : Act} {w : World}, (leftI X.es g).length < n → A.SS[i]? = some v → HeadF z X v → Path A.ED g i → TU (updP pre X.p g) nt ι0 H0 w0 ι v a w →
      Code.rounds P (.seq (.region id ops false) y) (LandsU pre nt ι0 H0 w0 ((A.OUT ++ B).map (dropO X.p))) n a w := by
    intro n
    induction n with
    | zero => intro g i v ι a w hl; omega
    | succ n ih =>
      intro g i v ι a w hl hi HF hpath TV
      rw [rounds_succ]
      refine wp_seq (wp_region ?_)
      have hr : List.range ops.size = 0 :: List.range' 1 rest.length := by
        rw [← Array.length_toList, hops, List.range_eq_range']; rfl
      rw [hr]
      unfold wpOps
      have h0 : ops[0]? = some o := by
        have : ops.toList[0]? = some o := by rw [hops]; rfl
        simpa using this
      rw [h0]
      simp only []
      have hw : Region.wanted o (yielded ops a.tmps) = true := by unfold Region.wanted; rw [hg]
      rw [hw]
      simp only [if_true]
      refine .inl (head_step hnt TV HF hXe hXs hXb hd ho hx hrd (by rw [hXF]; exact hn) (fun hall ι' a' w' T' => ?_) fun e he hne ι' a' w' T' => ?_)
      · rw [updP_eq] at hall
        obtain ⟨M, m1, m2⟩ := endsU_get hB i v hi
        rw [Nat.zero_add] at m1
        obtain ⟨m3, m4⟩ := endU_ok m1 hpath hall
        refine hk T' m3 ?_
        rintro e a2 w2 ⟨q, hq, hl⟩
        have hne := m4 q hq
        have := fin (.inr (m2 q hq)) hl
        cases q with
        | nrm u => cases hne
        | ret u => obtain ⟨rfl, _⟩ := hl; exact this
        | exit k u => obtain ⟨rfl, _⟩ := hl; exact this
      · rw [updP_eq] at hne
        obtain ⟨M, m1, m2⟩ := cl i v (Nat.zero_le _) hi e he
        refine hk T' m1 ?_
        rintro e2 a2 w2 ⟨q, hq, hl2⟩
        have hq := m2 q hq
        cases q with
        | nrm u' =>
          obtain ⟨v', j, b1, b2, b3⟩ := hq
          obtain ⟨rfl, ι2, T2⟩ := hl2
          obtain ⟨T3, HF3⟩ := T2.head b1 hXe hXs hXN
          rw [updP_upd, updP_eq] at T3
          have less := left_less he hne
          exact ih (by omega) b2 HF3 (hpath.step b3) T3
        | ret u' =>
          have := fin (.inl hq) hl2
          obtain ⟨rfl, _⟩ := hl2; exact this
        | exit m u' =>
          have := fin (.inl hq) hl2
          obtain ⟨rfl, _⟩ := hl2; exact this
  refine wp_loop_rounds ((leftI X.es []).length + 1) (key _ (g := []) (i := 0) (by omega) (le.ss 0 v rfl) HF1 .nil (ι := ι.below X.N.num) ?_)
  exact T1
end
end Go.Fg
/- Code whose states may have unknown temporaries: sound; functions, calls. -/
namespace Go.Fg
section
variable {P : Program} {pre : Pos → List Nat} {cf : CallT} {nt : Nat} {ι0 ι : Emb} {H0 : Hp} {w0 w : World} {s : TSt} {u : USt} {a : Act}

/-! Regions whose order is open. -/
theorem readyU_mem {done : List Nat} {i : Nat} {x : UOp} : ∀ {l : List (UOp × List Nat)} {k : Nat}, (i, x) ∈ readyU done k l ↔ ∃ j d, i = k + j ∧ l[j]? = some (x, d) ∧ hasN i done = false ∧ subN d done = true
  | [], k => ⟨fun h => (by cases h), fun ⟨j, d, _, h, _⟩ => (by simp at h)⟩
  | y :: r, k => by
    have ih := readyU_mem (done := done) (i := i) (x := x) (l := r) (k := k + 1)
    have rest : (i, x) ∈ readyU done (k + 1) r ↔ ∃ j d, i = k + (j + 1) ∧ r[j]? = some (x, d) ∧ hasN i done = false ∧ subN d done = true := by
      rw [ih]
      exact ⟨fun ⟨j, d, h1, h2⟩ => ⟨j, d, by omega, h2⟩, fun ⟨j, d, h1, h2⟩ => ⟨j, d, by omega, h2⟩⟩
    show (i, x) ∈ cond (!(hasN k done) && subN y.2 done) ((k, y.1) :: readyU done (k + 1) r) (readyU done (k + 1) r) ↔ _
    constructor
    · intro h
      cases c : (!(hasN k done) && subN y.2 done) with
      | false =>
        rw [c] at h
        obtain ⟨j, d, h1, h2, h3⟩ := rest.1 h
        exact ⟨j + 1, d, h1, by simpa using h2, h3⟩
      | true =>
        rw [c] at h
        rcases List.mem_cons.1 h with h | h
        · cases h
          rw [Bool.and_eq_true, Bool.not_eq_true'] at c
          exact ⟨0, y.2, rfl, rfl, c.1, c.2⟩
        · obtain ⟨j, d, h1, h2, h3⟩ := rest.1 h
          exact ⟨j + 1, d, h1, by simpa using h2, h3⟩
    · rintro ⟨j, d, h1, h2, h3, h4⟩
      cases j with
      | zero =>
        simp at h2
        subst h2
        have h1 : i = k := h1
        subst h1
        rw [h3, h4]; exact List.mem_cons_self ..
      | succ j =>
        have : (i, x) ∈ readyU done (k + 1) r := rest.2 ⟨j, d, h1, by simpa using h2, h3, h4⟩
        cases (!(hasN k done) && subN y.2 done) with
        | false => exact this
        | true => exact List.mem_cons_of_mem _ this
noncomputable def listU (P : Program) (nt : Nat) (ops : Array Oper) : List (UOp × List Nat) := ops.toList.map fun o => (compU P nt o, (o.after.toList.filter (Region.binds .any)).map (·.on))
theorem ready_iff {ops : Array Oper} {listed : Array Bool} {done : List Nat} (hs : listed.size = ops.size) (hD : ∀ i, listed.getD i false = hasN i done) {i : Nat} : i ∈ Region.ready .any ops listed ↔ ∃ o, ops[i]? = some o ∧ (i, compU P nt o) ∈ readyU done 0 (listU P nt ops) := by
  have sub : ∀ o : Oper, subN ((o.after.toList.filter (Region.binds .any)).map (·.on)) done = true ↔ ∀ e ∈ o.after.toList, Region.binds .any e = true → listed.getD e.on false = true := fun o => by
    unfold subN
    rw [List.all_eq_true]
    constructor
    · intro h e he hb
      rw [hD]; exact h _ (List.mem_map.2 ⟨e, List.mem_filter.2 ⟨he, hb⟩, rfl⟩)
    · intro h n hn
      obtain ⟨e, he, rfl⟩ := List.mem_map.1 hn
      obtain ⟨h1, h2⟩ := List.mem_filter.1 he
      rw [← hD]; exact h e h1 h2
  have at_ : ∀ o, ops[i]? = some o → (listU P nt ops)[i]? = some (compU P nt o, (o.after.toList.filter (Region.binds .any)).map (·.on)) := fun o ho => by
    unfold listU
    rw [List.getElem?_map, Array.getElem?_toList, ho]; rfl
  have gd : i < ops.size → listed.getD i true = listed.getD i false := fun h => by simp [Array.getD, hs, h]
  rw [ready_mem]
  constructor
  · rintro ⟨h1, h2, o, h3, h4⟩
    refine ⟨o, h3, readyU_mem.2 ⟨i, _, (Nat.zero_add i).symm, at_ o h3, ?_, (sub o).2 h4⟩⟩
    rw [← hD, ← gd h1]; exact h2
  · rintro ⟨o, h3, h4⟩
    obtain ⟨j, d, h5, h6, h7, h8⟩ := readyU_mem.1 h4
    have e : i = j := by omega
    subst e
    have h1 := (Array.getElem?_eq_some_iff.1 h3).1
    rw [at_ o h3] at h6
    cases h6
    exact ⟨h1, by rw [gd h1, hD]; exact h7, o, h3, (sub o).1 h8⟩
theorem Fin.same {ι0 ι : Emb} {H0 H : Hp} {w0 w w' : World} (F : Fin ι0 H0 w0 ι H w) (hw : w'.heap = w.heap) (ho : sameOut w w') : Fin ι0 H0 w0 ι H w' where
  ext := F.ext
  fresh := F.fresh
  hr := {
    pro := fun x r sh h => (F.hr.pro x r sh h).mono (Emb.le.refl _) (by rw [hw])
    apart := F.hr.apart
    blk := fun b x L h1 h2 => (F.hr.blk b x L h1 h2).mono (Emb.le.refl _) (by rw [hw])
    inj := F.hr.inj
    lt := fun b L h => by rw [hw]; exact F.hr.lt b L h
    low := F.hr.low }
  up := F.up
  size := by rw [hw]; exact F.size
  frame := fun r hr hc => by rw [hw]; exact F.frame r hr hc
  cover := F.cover
  icov := F.icov
  still := F.still
  out := F.out.trans ho
theorem TS.same (T : TS pre nt ι0 H0 w0 ι s a w) {w' : World} (hw : w'.heap = w.heap) (ho : sameOut w w') : TS pre nt ι0 H0 w0 ι s a w' where
  st := ⟨T.st.tr, (T.fin.same hw ho).hr, T.st.size, T.st.def_⟩
  fin := T.fin.same hw ho
  full := T.full
  base := T.base
  its := ⟨fun p it h => by rw [hw]; exact T.its.ok p it h, T.its.inj⟩
theorem TU.same (T : TU pre nt ι0 H0 w0 ι u a w) {w' : World} (hw : w'.heap = w.heap) (ho : sameOut w w') : TU pre nt ι0 H0 w0 ι u a w' := by
  obtain ⟨b, TB, k⟩ := T
  exact ⟨b, TB.same hw ho, k⟩
/-! Which states there are, each once. -/
noncomputable def hasU (v : USt) : List USt → Bool
  | [] => false
  | u :: r => cond (beqU u v) true (hasU v r)
noncomputable def dedU : List USt → List USt
  | [] => []
  | u :: r => cond (hasU u (dedU r)) (dedU r) (u :: dedU r)
theorem hasU_mem {v : USt} : ∀ {l : List USt}, hasU v l = true → v ∈ l
  | [], h => by cases h
  | u :: r, h => by
    have h : cond (beqU u v) true (hasU v r) = true := h
    cases c : beqU u v with
    | true => rw [beqU_eq c]; exact List.mem_cons_self ..
    | false => rw [c] at h; exact List.mem_cons_of_mem _ (hasU_mem h)
theorem mem_dedU {v : USt} : ∀ {l : List USt}, v ∈ l → v ∈ dedU l
  | [], h => h
  | u :: r, h => by
    show v ∈ cond (hasU u (dedU r)) (dedU r) (u :: dedU r)
    cases c : hasU u (dedU r) with
    | true =>
      rcases List.mem_cons.1 h with rfl | h
      · exact hasU_mem c
      · exact mem_dedU h
    | false =>
      rcases List.mem_cons.1 h with rfl | h
      · exact List.mem_cons_self ..
      · exact List.mem_cons_of_mem _ (mem_dedU h)


/-! Regions whose order is open, set by set of what is done. -/
def insN (n : Nat) : List Nat → List Nat
  | [] => [n]
  | m :: r => cond (Nat.blt n m) (n :: m :: r) (m :: insN n r)
theorem hasN_ins {j n : Nat} : ∀ {l : List Nat}, hasN j (insN n l) = cond (Nat.beq j n) true (hasN j l)
  | [] => rfl
  | m :: r => by
    have ih := hasN_ins (j := j) (n := n) (l := r)
    show hasN j (cond (Nat.blt n m) (n :: m :: r) (m :: insN n r)) = cond (Nat.beq j n) true (cond (Nat.beq j m) true (hasN j r))
    cases Nat.blt n m with
    | true => rfl
    | false =>
      show cond (Nat.beq j m) true (hasN j (insN n r)) = _
      rw [ih]
      cases Nat.beq j m <;> cases Nat.beq j n <;> rfl
noncomputable def expU (cf : CallT) (l : List (UOp × List Nat)) (x : List Nat × USt) : Option (List (List Nat × USt)) := bindAll (fun (y : Nat × UOp) => match stepU cf x.2 y.2 with
  | some L => some (L.map fun u => (insN y.1 x.1, u))
  | none => none) (readyU x.1 0 l)
def finU (l : List (UOp × List Nat)) (x : List Nat × USt) : List USt := cond (isNil (readyU x.1 0 l)) [x.2] []
noncomputable def hasD (v : List Nat × USt) : List (List Nat × USt) → Bool
  | [] => false
  | u :: r => cond (beqN u.1 v.1) (cond (beqU u.2 v.2) true (hasD v r)) (hasD v r)
noncomputable def dedD : List (List Nat × USt) → List (List Nat × USt)
  | [] => []
  | u :: r => cond (hasD u (dedD r)) (dedD r) (u :: dedD r)
theorem hasD_mem {v : List Nat × USt} : ∀ {l : List (List Nat × USt)}, hasD v l = true → v ∈ l
  | [], h => by cases h
  | u :: r, h => by
    have h : cond (beqN u.1 v.1) (cond (beqU u.2 v.2) true (hasD v r)) (hasD v r) = true := h
    cases c : beqN u.1 v.1 with
    | false => rw [c] at h; exact List.mem_cons_of_mem _ (hasD_mem h)
    | true =>
      rw [c] at h
      have h : cond (beqU u.2 v.2) true (hasD v r) = true := h
      cases d : beqU u.2 v.2 with
      | false => rw [d] at h; exact List.mem_cons_of_mem _ (hasD_mem h)
      | true =>
        have : u = v := Prod.ext (beqN_eq c) (beqU_eq d)
        rw [this]; exact List.mem_cons_self ..
theorem mem_dedD {v : List Nat × USt} : ∀ {l : List (List Nat × USt)}, v ∈ l → v ∈ dedD l
  | [], h => h
  | u :: r, h => by
    show v ∈ cond (hasD u (dedD r)) (dedD r) (u :: dedD r)
    cases c : hasD u (dedD r) with
    | true =>
      rcases List.mem_cons.1 h with rfl | h
      · exact hasD_mem c
      · exact mem_dedD h
    | false =>
      rcases List.mem_cons.1 h with rfl | h
      · exact List.mem_cons_self ..
      · exact List.mem_cons_of_mem _ (mem_dedD h)
noncomputable def anyL (cf : CallT) (l : List (UOp × List Nat)) : Nat → List (List Nat × USt) → Option (List USt)
  | 0, S => cond (S.all fun x => isNil (readyU x.1 0 l)) (some (S.map (·.2))) none
  | n + 1, S => match bindAll (expU cf l) S with
    | some E => match anyL cf l n (dedD E) with
      | some R => some (S.flatMap (finU l) ++ R)
      | none => none
    | none => none
theorem anyL_sound (hcf : CSimT P cf) (hnt : nt ≤ 100000) {ops : Array Oper} {Q : Exit → Act → World → Prop} : ∀ (fuel : Nat) {S : List (List Nat × USt)} {L : List USt}, anyL cf (listU P nt ops) fuel S = some L → ∀ x ∈ S, ∀ {listed : Array Bool} {ι : Emb} {a : Act} {w : World}, listed.size = ops.size → (∀ i, listed.getD i false = hasN i x.1) →
    TU pre nt ι0 H0 w0 ι x.2 a w → (∀ s' ∈ L, ∀ ι' a' w', TU pre nt ι0 H0 w0 ι' s' a' w' → Q .normal a' w') → wpAny P .any ops Q fuel listed a w := by
  have none_ready : ∀ {listed : Array Bool} {done : List Nat}, listed.size = ops.size → (∀ i, listed.getD i false = hasN i done) → (Region.ready .any ops listed = [] ↔ readyU done 0 (listU P nt ops) = []) := by
    intro listed done hs hD
    constructor
    · intro h
      rw [List.eq_nil_iff_forall_not_mem]
      rintro ⟨i, x⟩ hx
      obtain ⟨j, d, h1, h2, h3, h4⟩ := readyU_mem.1 hx
      have e : i = j := by omega
      subst e
      have h5 := h2
      unfold listU at h5
      rw [List.getElem?_map] at h5
      cases ho : ops.toList[i]? with
      | none => rw [ho] at h5; cases h5
      | some o =>
        rw [ho] at h5
        have h5 : some (compU P nt o, (o.after.toList.filter (Region.binds .any)).map (·.on)) = some (x, d) := h5
        cases h5
        have := (ready_iff (P := P) (nt := nt) hs hD).2 ⟨o, by simpa using ho, hx⟩
        rw [h] at this; cases this
    · intro h
      rw [List.eq_nil_iff_forall_not_mem]
      intro i hi
      obtain ⟨o, _, h2⟩ := (ready_iff (P := P) (nt := nt) hs hD).1 hi
      rw [h] at h2; cases h2
  intro fuel
  induction fuel with
  | zero =>
    intro S L h x hx listed ι a w hs hD T hQ
    obtain ⟨c, h⟩ := cond_some (show cond (S.all fun x => isNil (readyU x.1 0 (listU P nt ops))) (some (S.map (·.2))) none = some L from h)
    cases h
    exact ⟨(none_ready hs hD).2 (isNil_iff.1 (List.all_eq_true.1 c x hx)), hQ _ (List.mem_map.2 ⟨x, hx, rfl⟩) _ _ _ T⟩
  | succ fuel ih =>
    intro S L h x hx listed ι a w hs hD T hQ
    unfold anyL at h
    split at h
    case h_2 => cases h
    rename_i E hE
    split at h
    case h_2 => cases h
    rename_i R hR
    cases h
    refine ⟨fun hr => ?_, fun i hi => ?_⟩
    · refine hQ x.2 (List.mem_append_left _ (List.mem_flatMap.2 ⟨x, hx, ?_⟩)) _ _ _ T
      unfold finU
      rw [isNil_iff.2 ((none_ready hs hD).1 hr)]
      exact List.mem_singleton.2 rfl
    · obtain ⟨o, h1, h2⟩ := (ready_iff (P := P) (nt := nt) hs hD).1 hi
      obtain ⟨A, e1, e2⟩ := bindAll_mem hE x hx
      unfold expU at e1
      obtain ⟨B, b1, b2⟩ := bindAll_mem e1 _ h2
      simp only [] at b1
      split at b1
      case h_2 => cases b1
      rename_i L1 hL1
      cases b1
      have hlt := (Array.getElem?_eq_some_iff.1 h1).1
      obtain ⟨g, st⟩ := one_U hcf hnt T hL1 (K := fun a' w' => wpAny P .any ops Q fuel (listed.setIfInBounds i true) a' w') (Q := Q) fun s' hs' ι' a' w' T' => by
        refine ih hR (insN i x.1, s') (mem_dedD (e2 _ (b2 _ (List.mem_map.2 ⟨s', hs', rfl⟩)))) (by simpa using hs) (fun j => ?_) T' fun s2 h3 => hQ s2 (List.mem_append_right _ h3)
        rw [hasN_ins]
        by_cases e : j = i
        · subst e; simp [Array.getD, hs, hlt]
        · rw [beq_no e]
          show _ = hasN j x.1
          rw [← hD j]
          simp only [Array.getD_eq_getD_getElem?]
          rw [Array.getElem?_setIfInBounds_ne (Ne.symm e)]
      have hw : Region.wanted o (yielded ops a.tmps) = true := by unfold Region.wanted; rw [g]
      unfold wpOp
      rw [h1]
      simp only []
      rw [hw]
      simp only [if_true]
      exact .inl st

/-! Code. -/
noncomputable def bodyU (cf : CallT) (k : USt → Option (List UOut)) (l : List UOp) (u : USt) : Option (List UOut) := match opsU cf l u with
  | some L => bindAll k L
  | none => none
noncomputable def fewE (x : Od) (u : USt) : Bool := match x.ev u.s.τ with
  | .p p _ => match getIt p u.s.its with
    | some it => match mapOf (u.s.h.get it.m) with
      | some (es, _) => Nat.ble es.length 3
      | none => true
    | none => true
  | _ => true
noncomputable def semU (N : Nat) (cf : CallT) : UCode → USt → Option (List UOut)
  | .skip, u => some [.nrm u]
  | .ops l, u => match opsU cf l u with
    | some L => some (L.map .nrm)
    | none => none
  | .draw l, u => match anyL cf l l.length [([], u)] with
    | some L => some ((dedU L).map .nrm)
    | none => none
  | .seq a b, u => seqU (semU N cf a u) (semU N cf b)
  | .cond c rd a b, u => cond (noneIn rd u.unk) (match c.ev u.s.τ with
    | .b true => semU N cf a u
    | .b false => semU N cf b u
    | _ => none) none
  | .block id b, u => match semU N cf b u with
    | some L => some (L.map (blockU id))
    | none => none
  | .loop b, u => loopU (semU N cf b) N u
  | .mloop d x rd F r b, u => match cond (fewE x u) none (mloopU (bodyU cf (semU N cf b) r) d x rd F u) with
    | some L => some L
    | none => loopU (bodyU cf (semU N cf b) (⟨.next d x, rd, d⟩ :: r)) N u
  | .exit id, u => some [.exit id u]
  | .ret, u => some [.ret u]
  | .bad, _ => none

/-! From the model's code. -/
noncomputable def addD (d : Option Pos) (l : List Pos) : List Pos := match d with
  | some p => addP p l
  | none => l
noncomputable def dstsO : List UOp → List Pos → List Pos
  | [], l => l
  | o :: r, l => addD o.d (dstsO r l)
noncomputable def dstsW : List (UOp × List Nat) → List Pos → List Pos
  | [], l => l
  | o :: r, l => addD o.1.d (dstsW r l)
noncomputable def dstsC : UCode → List Pos → List Pos
  | .ops o, l => dstsO o l
  | .draw o, l => dstsW o l
  | .seq a b, l => dstsC a (dstsC b l)
  | .cond _ _ a b, l => dstsC a (dstsC b l)
  | .block _ b, l => dstsC b l
  | .loop b, l => dstsC b l
  | .mloop d _ _ _ r b, l => addD d (dstsO r (dstsC b l))
  | _, l => l
def sndU : UCode → UCode
  | .seq _ b => b
  | c => c
/-- The first operation of a loop over a map. -/
def nextU (nt : Nat) (o : Oper) : Option (Option Pos × Od × List Pos) := match o.guard, dstT nt o.dst, o.op with
  | none, some d, .next x false => match od x, posT o.op.operands.toList with
    | some z, some rd => some (d, z, rd)
    | _, _ => none
  | _, _, _ => none
def firstU : Code → Option (Oper × List Oper)
  | .seq (.region _ ops false) _ => match ops.toList with
    | o :: r => some (o, r)
    | [] => none
  | _ => none
noncomputable def compUC (P : Program) (nt : Nat) : Code → UCode
  | .skip => .skip
  | .region _ ops false => .ops (ops.toList.map (compU P nt))
  | .region _ ops true => .draw (listU P nt ops)
  | .seq a b => .seq (compUC P nt a) (compUC P nt b)
  | .cond c a b => match od c, posT [c] with
    | some x, some rd => .cond x rd (compUC P nt a) (compUC P nt b)
    | _, _ => .bad
  | .block id b => .block id (compUC P nt b)
  | .loop b => match firstU b with
    | some (o, r) => match nextU nt o with
      | some (d, z, rd) => .mloop d z rd (addD d (dstsO (r.map (compU P nt)) (dstsC (sndU (compUC P nt b)) []))) (r.map (compU P nt)) (sndU (compUC P nt b))
      | none => .loop (compUC P nt b)
    | none => .loop (compUC P nt b)
  | .exit id => .exit id
  | .ret => .ret
  | _ => .bad

theorem seqU_sound {x : Code} {k : USt → Option (List UOut)} {X : Option (List UOut)} {M : List UOut} {Q : Exit → Act → World → Prop} {K : Act → World → Prop} (h : seqU X k = some M)
    (hx : ∀ L, X = some L → x.wp P (LandsU pre nt ι0 H0 w0 L) a w) (hQ : ∀ e a' w', e ≠ .normal → LandsU pre nt ι0 H0 w0 M e a' w' → Q e a' w')
    (hK : ∀ s' A, k s' = some A → (∀ y ∈ A, y ∈ M) → ∀ ι' a' w', TU pre nt ι0 H0 w0 ι' s' a' w' → K a' w') : x.wp P (Exit.then K Q) a w := by
  unfold seqU at h
  split at h
  case h_2 => cases h
  rename_i L
  refine wp_mono (hx L rfl) ?_
  rintro e a1 w1 ⟨o, ho, hl⟩
  obtain ⟨A, e1, e2⟩ := bindAll_mem h o ho
  cases o with
  | nrm s' =>
    obtain ⟨rfl, ι', T⟩ := hl
    exact hK s' A e1 e2 ι' a1 w1 T
  | ret s' =>
    cases e1
    obtain ⟨rfl, h⟩ := hl
    exact hQ _ _ _ (by simp) ⟨_, e2 _ (List.mem_singleton.2 rfl), rfl, h⟩
  | exit id s' =>
    cases e1
    obtain ⟨rfl, h⟩ := hl
    exact hQ _ _ _ (by simp) ⟨_, e2 _ (List.mem_singleton.2 rfl), rfl, h⟩
theorem roundsU_sound {x : Code} {body : USt → Option (List UOut)} (hx : ∀ {ι : Emb} {u : USt} {a : Act} {w : World} {L : List UOut}, TU pre nt ι0 H0 w0 ι u a w → body u = some L → x.wp P (LandsU pre nt ι0 H0 w0 L) a w) {Q : Exit → Act → World → Prop} :
    ∀ (n : Nat) {ι : Emb} {u : USt} {a : Act} {w : World} {M : List UOut}, loopU body n u = some M → TU pre nt ι0 H0 w0 ι u a w → (∀ e a' w', LandsU pre nt ι0 H0 w0 M e a' w' → Q e a' w') → Code.rounds P x Q n a w
  | 0, ι, u, a, w, M, h, T, hQ => by cases h
  | n + 1, ι, u, a, w, M, h, T, hQ => by
    rw [rounds_succ]
    have h : seqU (body u) (loopU body n) = some M := h
    exact seqU_sound h (fun L hL => hx T hL) (fun e a' w' _ k => hQ e a' w' k) fun s' A e1 e2 ι' a' w' T' => roundsU_sound hx n e1 T' fun e a2 w2 ⟨o, ho, hl⟩ => hQ e a2 w2 ⟨o, e2 o ho, hl⟩
theorem known_eval {b : Act} (sm : ∀ t, t < 1000000 → memP (pos t) u.unk = false → a.tmps.getD t undef = b.tmps.getD t undef) {c : Operand} {rd : List Pos} (hrd : posT [c] = some rd) (hn : noneIn rd u.unk = true) : a.eval c = b.eval c := by
  cases c with
  | tmp t =>
    obtain ⟨h1, h2⟩ := posT_mem hrd t (List.mem_singleton.2 rfl)
    unfold noneIn at hn
    have h4 := List.all_eq_true.1 hn _ h2
    exact sm t h1 (by simpa using h4)
  | const v => rfl
  | global g => rfl
  | func f => rfl
/-- The rest of a loop's body behind its first operation. -/
theorem bodyU_sound (hcf : CSimT P cf) (hnt : nt ≤ 100000) {ops : Array Oper} {y : Code} {kb : USt → Option (List UOut)} (hy : ∀ {pre : Pos → List Nat} {ι : Emb} {u : USt} {a : Act} {w : World} {L : List UOut}, TU pre nt ι0 H0 w0 ι u a w → kb u = some L → y.wp P (LandsU pre nt ι0 H0 w0 L) a w)
    (l : List Oper) (k : Nat) (hl : ∀ j, l[j]? = ops[k + j]?) (T : TU pre nt ι0 H0 w0 ι u a w) {L : List UOut} (h : bodyU cf kb (l.map (compU P nt)) u = some L) {Q : Exit → Act → World → Prop} (hQ : ∀ e a' w', LandsU pre nt ι0 H0 w0 L e a' w' → Q e a' w') :
    wpOps P ops (Exit.then (fun a w => y.wp P Q a w) Q) (List.range' k l.length) a w := by
  unfold bodyU at h
  split at h
  case h_2 => cases h
  rename_i L1 h1
  refine opsU_sound hcf hnt l k hl T h1 fun u' hu' ι' a' w' T' => ?_
  obtain ⟨A, e1, e2⟩ := bindAll_mem h u' hu'
  exact wp_mono (hy T' e1) fun e a2 w2 ⟨o, ho, hl⟩ => hQ e a2 w2 ⟨o, e2 o ho, hl⟩
def SoundU (P : Program) (nt : Nat) (ι0 : Emb) (H0 : Hp) (w0 : World) (N : Nat) (cf : CallT) (c : Code) : Prop := ∀ {pre : Pos → List Nat} {ι : Emb} {u : USt} {a : Act} {w : World} {L : List UOut}, TU pre nt ι0 H0 w0 ι u a w → semU N cf (compUC P nt c) u = some L → c.wp P (LandsU pre nt ι0 H0 w0 L) a w
theorem loopU_sound (hcf : CSimT P cf) {N : Nat} {x : Code} (ih : SoundU P nt ι0 H0 w0 N cf x) (T : TU pre nt ι0 H0 w0 ι u a w) {L : List UOut} (h : loopU (semU N cf (compUC P nt x)) N u = some L) : (Code.loop x).wp P (LandsU pre nt ι0 H0 w0 L) a w :=
  wp_loop_rounds N (roundsU_sound (fun T h => ih T h) N h T fun e a' w' k => k)
theorem firstU_some {x : Code} {o : Oper} {r : List Oper} (h : firstU x = some (o, r)) : ∃ id ops y, x = .seq (.region id ops false) y ∧ ops.toList = o :: r := by
  unfold firstU at h
  split at h
  · rename_i id ops y
    split at h
    · rename_i o' r' e
      cases h
      exact ⟨id, ops, y, rfl, e⟩
    · cases h
  · cases h
theorem nextU_some {o : Oper} {d : Option Pos} {z : Od} {rd : List Pos} (h : nextU nt o = some (d, z, rd)) : o.guard = none ∧ dstT nt o.dst = some d ∧ ∃ x, o.op = .next x false ∧ od x = some z ∧ posT o.op.operands.toList = some rd := by
  unfold nextU at h
  split at h
  · rename_i d' x hg hd ho
    split at h
    · rename_i z' rd' hz hrd
      cases h
      exact ⟨hg, hd, x, ho, hz, hrd⟩
    · cases h
  · cases h
theorem semU_sound (hm : P.follows .mixedOrders = true) (hcf : CSimT P cf) {N : Nat} (hnt : nt ≤ 100000) : ∀ (c : Code), SoundU P nt ι0 H0 w0 N cf c ∧ ∀ x y, c = .seq x y → SoundU P nt ι0 H0 w0 N cf y := by
  intro c
  induction c with
  | skip => exact ⟨fun {pre ι u a w L} T h => by cases h; exact wp_skip ⟨_, List.mem_singleton.2 rfl, rfl, ι, T⟩, fun x y e => by cases e⟩
  | ret => exact ⟨fun {pre ι u a w L} T h => by cases h; exact wp_ret ⟨_, List.mem_singleton.2 rfl, rfl, ι, T⟩, fun x y e => by cases e⟩
  | exit id => exact ⟨fun {pre ι u a w L} T h => by cases h; exact wp_exit ⟨_, List.mem_singleton.2 rfl, rfl, ι, T⟩, fun x y e => by cases e⟩
  | region id ops draw =>
    refine ⟨fun {pre ι u a w L} T h => ?_, fun x y e => by cases e⟩
    cases draw with
    | true =>
      have h : (match anyL cf (listU P nt ops) (listU P nt ops).length [([], u)] with | some L => some ((dedU L).map UOut.nrm) | none => none) = some L := h
      have hlen : (listU P nt ops).length = ops.size := by unfold listU; simp
      rw [hlen] at h
      split at h
      case h_2 => cases h
      rename_i L1 h1
      cases h
      refine wp_region_any hm (anyL_sound hcf hnt ops.size h1 ([], u) (List.mem_singleton.2 rfl) (by simp) (fun i => ?_) (T.same rfl ⟨rfl, rfl, rfl, fun _ => rfl⟩) fun s' hs' ι' a' w' T' => ⟨_, List.mem_map.2 ⟨s', mem_dedU hs', rfl⟩, rfl, ι', T'⟩)
      show _ = false
      simp [Array.getD]
    | false =>
      refine wp_region ?_
      have h : (match opsU cf (ops.toList.map (compU P nt)) u with | some L => some (L.map UOut.nrm) | none => none) = some L := h
      split at h
      case h_2 => cases h
      rename_i L1 h1
      cases h
      have := opsU_sound (Q := LandsU pre nt ι0 H0 w0 (L1.map UOut.nrm)) hcf hnt (ops := ops) ops.toList 0 (fun j => by simp) T h1 fun s' hs' ι' a' w' T' => ⟨_, List.mem_map.2 ⟨s', hs', rfl⟩, rfl, ι', T'⟩
      rwa [Array.length_toList, ← List.range_eq_range'] at this
  | seq x y ihx ihy =>
    refine ⟨fun {pre ι u a w L} T h => ?_, fun x' y' e => by cases e; exact ihy.1⟩
    have h : seqU (semU N cf (compUC P nt x) u) (semU N cf (compUC P nt y)) = some L := h
    exact wp_seq (seqU_sound h (fun L1 h1 => ihx.1 T h1) (fun e a' w' _ k => k) fun s' A e1 e2 ι' a' w' T' => wp_mono (ihy.1 T' e1) fun e a2 w2 ⟨o, ho, hl⟩ => ⟨o, e2 o ho, hl⟩)
  | cond o x y ihx ihy =>
    refine ⟨fun {pre ι u a w L} T h => ?_, fun x y e => by cases e⟩
    unfold compUC at h
    split at h
    case h_2 => cases h
    rename_i z rd ho hrd
    have h : cond (noneIn rd u.unk) (match z.ev u.s.τ with | .b true => semU N cf (compUC P nt x) u | .b false => semU N cf (compUC P nt y) u | _ => none) none = some L := h
    obtain ⟨hn, h⟩ := cond_some h
    have hv : VR ι (z.ev u.s.τ) (a.eval o) := by
      obtain ⟨b, TB, sz, df, sm⟩ := T
      have := od_sound TB.st.tr ho
      rw [← known_eval sm hrd hn] at this
      exact this
    generalize z.ev u.s.τ = q at h hv
    cases q with
    | b t =>
      have hb := vr_b hv
      cases t with
      | true => exact wp_cond_true hb (ihx.1 T h)
      | false => exact wp_cond_false hb (ihy.1 T h)
    | _ => cases h
  | block id x ih =>
    refine ⟨fun {pre ι u a w L} T h => ?_, fun x y e => by cases e⟩
    have h : (match semU N cf (compUC P nt x) u with | some L => some (L.map (blockU id)) | none => none) = some L := h
    split at h
    case h_2 => cases h
    rename_i L1 h1
    cases h
    refine wp_block (wp_mono (ih.1 T h1) ?_)
    rintro e a1 w1 ⟨o, ho, hl⟩
    cases o with
    | nrm s' => obtain ⟨rfl, h⟩ := hl; exact ⟨_, List.mem_map.2 ⟨_, ho, rfl⟩, rfl, h⟩
    | ret s' => obtain ⟨rfl, h⟩ := hl; exact ⟨_, List.mem_map.2 ⟨_, ho, rfl⟩, rfl, h⟩
    | exit k s' =>
      obtain ⟨rfl, hT⟩ := hl
      have hm : blockU id (.exit k s') ∈ L1.map (blockU id) := List.mem_map.2 ⟨_, ho, rfl⟩
      have e : blockU id (.exit k s') = cond (Nat.beq k id) (.nrm s') (.exit k s') := rfl
      rw [e] at hm
      show (if k = id then LandsU pre nt ι0 H0 w0 _ .normal a1 w1 else LandsU pre nt ι0 H0 w0 _ (.exit k) a1 w1)
      by_cases hk : k = id
      · subst hk
        rw [if_pos rfl]; rw [Nat.beq_refl] at hm
        exact ⟨_, hm, rfl, hT⟩
      · rw [if_neg hk]; rw [beq_no hk] at hm
        exact ⟨_, hm, rfl, hT⟩
  | loop x ih =>
    refine ⟨fun {pre ι u a w L} T h => ?_, fun x y e => by cases e⟩
    unfold compUC at h
    split at h
    case h_2 => exact loopU_sound hcf ih.1 T h
    rename_i o r hf
    split at h
    case h_2 => exact loopU_sound hcf ih.1 T h
    rename_i d z rd hx
    obtain ⟨id, ops, y, rfl, hops⟩ := firstU_some hf
    obtain ⟨hg, hd, x, ho, hz, hrd⟩ := nextU_some hx
    have hy : SoundU P nt ι0 H0 w0 N cf y := ih.2 _ _ rfl
    have hb : ∀ {pre : Pos → List Nat} {ι : Emb} {u : USt} {a : Act} {w : World} {L : List UOut}, TU pre nt ι0 H0 w0 ι u a w → bodyU cf (semU N cf (compUC P nt y)) (r.map (compU P nt)) u = some L → ∀ {Q : Exit → Act → World → Prop}, (∀ e a' w', LandsU pre nt ι0 H0 w0 L e a' w' → Q e a' w') →
        wpOps P ops (Exit.then (fun a w => y.wp P Q a w) Q) (List.range' 1 r.length) a w := fun {pre ι u a w L} T h {Q} hQ =>
      bodyU_sound hcf hnt (fun T h => hy T h) r 1 (fun j => by
        have : ops.toList[1 + j]? = r[j]? := by rw [hops, Nat.add_comm]; rfl
        simpa using this.symm) T h hQ
    have h : (match cond (fewE z u) none (mloopU (bodyU cf (semU N cf (compUC P nt y)) (r.map (compU P nt))) d z rd (addD d (dstsO (r.map (compU P nt)) (dstsC (compUC P nt y) []))) u) with
      | some L => some L
      | none => loopU (bodyU cf (semU N cf (compUC P nt y)) (⟨.next d z, rd, d⟩ :: r.map (compU P nt))) N u) = some L := h
    split at h
    · rename_i L1 hL
      cases h
      cases c : fewE z u with
      | true => rw [c] at hL; cases hL
      | false =>
        rw [c] at hL
        exact mloop_sound hnt hops hg hd ho hz hrd (fun T h => hb T h) T hL
    · have hc : compU P nt o = ⟨.next d z, rd, d⟩ := by
        unfold compU
        rw [hrd]
        simp only []
        have : compT P nt o = .next d z := by
          unfold compT
          rw [hg, hd, ho]
          simp only [hz]
        rw [this, ← (dstT_some hd).1]
      rw [← hc, ← List.map_cons, ← hops] at h
      refine wp_loop_rounds N (roundsU_sound (fun {ι u a w L} T h => wp_seq (wp_region ?_)) N h T fun e a' w' k => k)
      have := bodyU_sound (ops := ops) hcf hnt (fun T h => hy T h) ops.toList 0 (fun j => by simp) T h (Q := LandsU pre nt ι0 H0 w0 L) fun e a' w' k => k
      rwa [Array.length_toList, ← List.range_eq_range'] at this
  | _ => exact ⟨fun {pre ι u a w L} T h => (by cases h), fun x y e => (by cases e)⟩

/-! Functions. -/
structure UFn where
  res : List IRes
  body : UCode
noncomputable def compUFn (P : Program) (f : Nat) : Option UFn := match P.funcs[f]? with
  | some fn => match fn.body, compRes P fn.results.toList with
    | some c, some rs => if fn.ntmps ≤ 100000 ∧ fn.name ≠ "runtime.NumGoroutine" then some ⟨rs, compUC P fn.ntmps c⟩ else none
    | _, _ => none
  | none => none
noncomputable def leaveU (rs : List IRes) : UOut → Option (List (IV × Hp))
  | .nrm u | .ret u => cond (noneIn (resP rs) u.unk) (match resultsI u.s.τ u.s.h rs with
    | some vs => some [(oneOf vs, u.s.h)]
    | none => none) none
  | .exit _ _ => none
noncomputable def callFnU (N : Nat) (cf : CallT) (fn : UFn) (args : List IV) (h : Hp) : Option (List (IV × Hp)) := match semU N cf fn.body ⟨⟨frameOf args .h .nil, h, []⟩, []⟩ with
  | some L => bindAll (leaveU fn.res) L
  | none => none
noncomputable def callNU (cf : CallF) (T : Pos → Option UFn) (N : Nat) : Nat → CallT
  | 0 => fun _ _ _ => none
  | n + 1 => fun f args h => match T f with
    | some fn => callFnU N (callNU cf T N n) fn args h
    | none => match cf f args h with
      | some r => some [r]
      | none => none
theorem compUFn_some {n : Nat} {f : UFn} (h : compUFn P n = some f) : ∃ fn c, P.funcs[n]? = some fn ∧ fn.body = some c ∧ compRes P fn.results.toList = some f.res ∧ fn.ntmps ≤ 100000 ∧ fn.name ≠ "runtime.NumGoroutine" ∧ f.body = compUC P fn.ntmps c := by
  unfold compUFn at h
  split at h
  · rename_i fn hfn
    split at h
    · rename_i c rs hb hr
      split at h
      · rename_i hc
        cases h
        exact ⟨fn, c, hfn, hb, hr, hc.1, hc.2, rfl⟩
      · cases h
    · cases h
  · cases h
theorem results_known {b : Act} (sm : ∀ t, t < 1000000 → memP (pos t) u.unk = false → a.tmps.getD t undef = b.tmps.getD t undef) {fn : Func} {rs : List IRes} (hc : compRes P fn.results.toList = some rs) (hn : noneIn (resP rs) u.unk = true) : results fn a.tmps = results fn b.tmps := by
  have e : ∀ c : Act, results fn c.tmps = (do let vs ← fn.results.mapM (resRun c.tmps); pure (if h : vs.size = 1 then vs[0] else .tuple vs)) := fun c => by
    unfold results
    congr 1
  have key : ∀ (l : List ResultVar) (rs : List IRes), compRes P l = some rs → noneIn (resP rs) u.unk = true → ∀ r ∈ l, resRun a.tmps r = resRun b.tmps r := by
    intro l
    induction l with
    | nil => intro rs _ _ r hr; cases hr
    | cons r l ih =>
      intro rs hc hn q hq
      unfold compRes at hc
      split at hc
      case h_2 => cases hc
      rename_i x rs' hx hrs
      cases hc
      have tail : noneIn (resP rs') u.unk = true := by
        unfold noneIn at hn ⊢
        cases x <;> simp only [resP, List.all_cons, Bool.and_eq_true] at hn <;> exact hn.2
      have here : ∀ p, resP (x :: rs') = p :: resP rs' → memP p u.unk = false := fun p e => by
        unfold noneIn at hn
        rw [e, List.all_cons, Bool.and_eq_true] at hn
        simpa using hn.1
      rcases List.mem_cons.1 hq with rfl | hq
      · cases q with
        | tmp t =>
          simp only [] at hx
          split at hx
          case isFalse => cases hx
          rename_i ht
          cases hx
          show (pure _ : Sem Value) = pure _
          rw [sm t (Nat.le_of_ble_eq_true ht) (here _ rfl)]
        | cell c t =>
          simp only [] at hx
          split at hx
          case isFalse => cases hx
          rename_i ht
          have hp : resP (x :: rs') = pos c :: resP rs' := by
            split at hx
            · split at hx
              · cases hx; rfl
              · cases hx
            · split at hx
              · cases hx; rfl
              · cases hx
          show (do loadVar t (← asAddr (a.tmps.getD c undef)) : Sem Value) = (do loadVar t (← asAddr (b.tmps.getD c undef)))
          rw [sm c (Nat.le_of_ble_eq_true ht) (here _ hp)]
      · exact ih rs' hrs tail q hq
  rw [e a, e b]
  congr 1
  rw [Array.mapM_eq_mapM_toList, Array.mapM_eq_mapM_toList]
  congr 1
  have k := key _ _ hc hn
  generalize fn.results.toList = l at k
  clear hc
  induction l with
  | nil => rfl
  | cons r l ih =>
    rw [List.mapM_cons, List.mapM_cons, k r (List.mem_cons_self ..), ih fun q hq => k q (List.mem_cons_of_mem _ hq)]
theorem callFnU_sound (hm : P.follows .mixedOrders = true) (hcf : CSimT P cf) {N n : Nat} {f : UFn} (hc : compUFn P n = some f) {args : List IV} {h : Hp} {L : List (IV × Hp)} (e : callFnU N cf f args h = some L) :
    (∃ fn, P.funcs[n]? = some fn ∧ fn.body.isNone = false ∧ (fn.name == "runtime.NumGoroutine") = false) ∧
    ∀ (ι : Emb) (w : World) (args' : Array Value), VRs ι args args'.toList → HR ι h w → FullF ι h →
      Calls P n args' w fun e w' => ∃ r ∈ L, ∃ v' ι', e = .returned v' ∧ VR ι' r.1 v' ∧ Fin ι h w ι' r.2 w' := by
  obtain ⟨fn, c, h1, h2, h3, h4, h5, h6⟩ := compUFn_some hc
  refine ⟨⟨fn, h1, by rw [h2]; rfl, by simpa using h5⟩, fun ι w args' hargs hH hfull => ?_⟩
  unfold callFnU at e
  rw [h6] at e
  split at e
  case h_2 => cases e
  rename_i L1 hL
  refine calls_of_wp h1 h2 ?_
  have hs : TS (fun _ => []) fn.ntmps ι h w ι ⟨frameOf args .h .nil, h, []⟩ { tmps := args' ++ Array.replicate (fn.ntmps - args'.size) undef, defers := [] } w := ⟨⟨frame_sound hargs, hH, by simp; omega, rfl⟩, .refl hH, hfull, hfull, ⟨fun p it k => (by cases k), fun p q it jt _ _ k => (by cases k)⟩⟩
  have hu : TU (fun _ => []) fn.ntmps ι h w ι ⟨⟨frameOf args .h .nil, h, []⟩, []⟩ { tmps := args' ++ Array.replicate (fn.ntmps - args'.size) undef, defers := [] } w := ⟨_, hs, rfl, rfl, fun t _ _ => rfl⟩
  refine wp_mono ((semU_sound hm hcf h4 c).1 hu hL) ?_
  rintro e2 a2 w2 ⟨o, ho, hl⟩
  obtain ⟨A, e1, e3⟩ := bindAll_mem e o ho
  have fin : ∀ u', cond (noneIn (resP f.res) u'.unk) (match resultsI u'.s.τ u'.s.h f.res with | some vs => some [(oneOf vs, u'.s.h)] | none => none) none = some A → ∀ ι', TU (fun _ => []) fn.ntmps ι h w ι' u' a2 w2 → a2.defers = [] ∧ ∃ v', (results fn a2.tmps).run P w2 = .ok v' w2 ∧ ∃ r ∈ L, ∃ v2 ι', Ending.returned v' = .returned v2 ∧ VR ι' r.1 v2 ∧ Fin ι h w ι' r.2 w2 := fun u' hr ι' ⟨b, TB, sz, df, sm⟩ => by
    obtain ⟨hn, hr⟩ := cond_some hr
    split at hr
    case h_2 => cases hr
    rename_i vs k2
    cases hr
    obtain ⟨v', r1, r2⟩ := results_sound TB.st.tr TB.st.hr h3 k2
    rw [results_known sm h3 hn]
    exact ⟨df, v', r1, _, e3 _ (List.mem_singleton.2 rfl), v', ι', rfl, r2, TB.fin⟩
  cases o with
  | nrm s' =>
    obtain ⟨rfl, ι', T⟩ := hl
    exact fin s' e1 ι' T
  | ret s' =>
    obtain ⟨rfl, ι', T⟩ := hl
    exact fin s' e1 ι' T
  | exit id s' => cases e1
theorem callNU_sound (hm : P.follows .mixedOrders = true) {cf : CallF} (hcf : CSim P cf) {T : Pos → Option UFn} (hT : ∀ n f, n < 1000000 → T (pos n) = some f → compUFn P n = some f) {N : Nat} : ∀ n, CSimT P (callNU cf T N n)
  | 0 => fun _ _ _ _ _ e => by cases e
  | n + 1 => fun g args h L hg e => by
    have e : (match T (pos g) with | some fn => callFnU N (callNU cf T N n) fn args h | none => match cf (pos g) args h with | some r => some [r] | none => none) = some L := e
    split at e
    · rename_i f hf
      exact callFnU_sound hm (callNU_sound hm hcf hT n) (hT g f hg hf) e
    · split at e
      case h_2 => cases e
      rename_i r hr
      cases e
      obtain ⟨k1, k2⟩ := hcf g args h _ _ hg hr
      refine ⟨k1, fun ι w args' hv hH hF => (k2 ι w args' hv hH (hF.free _)).mono ?_⟩
      rintro e w' ⟨v', ι', h1, h2, h3⟩
      exact ⟨r, List.mem_singleton.2 rfl, v', ι', h1, h2, h3⟩
/-- Does each outcome have this content? -/
noncomputable def allTell (u : IV) : List (IV × Hp) → Bool
  | [] => true
  | r :: t => match frz r.2 r.1 with
    | some (x, _) => cond (beqDeep x u) (allTell u t) false
    | none => false
theorem allTell_mem {u : IV} : ∀ {L : List (IV × Hp)}, allTell u L = true → ∀ r ∈ L, ∃ h3, frz r.2 r.1 = some (u, h3)
  | [], _, r, h => by cases h
  | x :: t, h, r, hr => by
    unfold allTell at h
    split at h
    · rename_i y h3 e
      cases c : beqDeep y u with
      | false => rw [c] at h; cases h
      | true =>
        rw [c] at h
        rcases List.mem_cons.1 hr with rfl | hr
        · rw [beqDeep_eq _ c] at e; exact ⟨h3, e⟩
        · exact allTell_mem h r hr
    · cases h
theorem tells_T {cf : CallT} (hcf : CSimT P cf) {n : Nat} {args : List IV} {u : IV} {L : List (IV × Hp)} (hn : n < 1000000) (e : cf (pos n) args Hp.empty = some L) (hu : allTell u L = true) : Tells P n args u := by
  obtain ⟨k1, k2⟩ := hcf n args _ L hn e
  refine ⟨k1, fun ι w args'' hv hH => (k2 ι.bare w args'' hv hH (fun _ _ => rfl)).mono ?_⟩
  rintro e w' ⟨r, hr, v', ι', rfl, m1, m2⟩
  obtain ⟨h3, e3⟩ := allTell_mem hu r hr
  obtain ⟨ι2, f1, f2, f3⟩ := frz_sound (P := P) m2.hr m1 e3
  exact ⟨v', ι2, h3, rfl, f3, m2.trans f1⟩
end
end Go.Fg
/- The ideal machine with known answers, also for calls that see memory. -/
namespace Go.Fg

/-! A tree's part whose numbers are wanted. -/
def keepP {α : Type} (q : Nat → Bool) : PT α → (Nat → Nat) → PT α
  | .nil, _ => .nil
  | .nd l v r, f => nodeP (keepP q l fun x => f (2 * x)) (cond (q (f 1)) v none) (keepP q r fun x => f (2 * x + 1))
theorem get_keepP {α : Type} (q : Nat → Bool) : ∀ (t : PT α) (f : Nat → Nat) (p : Pos), PT.get (keepP q t f) p = if q (f p.num) = true then PT.get t p else none
  | .nil, f, p => by show PT.get .nil p = _; rw [PT.get_nil]; split <;> rfl
  | .nd l v r, f, p => by
    show PT.get (nodeP _ _ _) p = _
    rw [get_nodeP]
    cases p with
    | h =>
      rw [PT.get_nd_h, PT.get_nd_h]
      show cond (q (f 1)) v none = if q (f 1) = true then v else none
      cases q (f 1) <;> rfl
    | o p => rw [PT.get_nd_o, PT.get_nd_o, get_keepP q l]; rfl
    | i p => rw [PT.get_nd_i, PT.get_nd_i, get_keepP q r]; rfl
/-- What is elder than N, and of what is new only M. -/
noncomputable def keepH (N : Pos) (M : List Nat) (h : Hp) : Hp := ⟨keepP (fun k => cond (Nat.blt k N.num) true (hasN k M)) h.t (fun x => x), h.next⟩
theorem get_keepH (N : Pos) (M : List Nat) (h : Hp) (p : Pos) : (keepH N M h).get p = if cond (Nat.blt p.num N.num) true (hasN p.num M) = true then h.get p else none := get_keepP _ h.t (fun x => x) p
theorem keepH_sub {N : Pos} {M : List Nat} {h : Hp} {p : Pos} {x : Blk} (e : (keepH N M h).get p = some x) : h.get p = some x := by
  rw [get_keepH] at e
  split at e
  · exact e
  · cases e
theorem keepH_ne {N : Pos} {M : List Nat} {h : Hp} {p : Pos} (e : (keepH N M h).get p ≠ none) : h.get p ≠ none := by
  cases c : (keepH N M h).get p with
  | none => exact absurd c e
  | some x => rw [keepH_sub c]; simp
/-- New blocks may be forgotten. -/
theorem Fin.keep {ι ι' : Emb} {H H' : Hp} {w w' : World} (F : Fin ι H w ι' H' w') (M : List Nat) : Fin ι H w ι' (keepH H.next M H') w' where
  ext := F.ext
  fresh := F.fresh
  hr := {
    pro := F.hr.pro
    apart := fun b x L y r sh hb hl hL hy => F.hr.apart b x L y r sh (keepH_sub hb) hl hL hy
    blk := fun b x L hb hL => F.hr.blk b x L (keepH_sub hb) hL
    inj := fun b c L K h1 h2 k1 k2 => F.hr.inj b c L K (keepH_ne h1) (keepH_ne h2) k1 k2
    lt := F.hr.lt
    low := fun b hb => F.hr.low b (keepH_ne hb) }
  up := F.up
  size := F.size
  frame := F.frame
  cover := fun b L h1 h2 h3 => F.cover b L h1 (keepH_ne h2) h3
  icov := F.icov
  still := fun b h1 h2 => by
    rw [get_keepH, show Nat.blt b.num H.next.num = true from Nat.ble_eq_true_of_le h1]
    exact F.still b h1 h2
  out := F.out

noncomputable def beqHp (h k : Hp) : Bool := cond (Pos.eq h.next k.next) (beqP (fun x y => beqB x y) h.t k.t) false
theorem beqHp_eq {h k : Hp} (e : beqHp h k = true) : h = k := by
  obtain ⟨h1, h2⟩ := Go.Fg.cond_true (show cond _ _ false = true from e)
  obtain ⟨t, n⟩ := h
  obtain ⟨t', n'⟩ := k
  have e1 : t = t' := beqP_eq (fun x y h => beqB_eq _ _ h) h2
  have e2 : n = n' := Pos.eq_true h1
  rw [e1, e2]

/-! One answer, with memory before and behind. -/
def SimAt (P : Program) (n : Nat) (args : List IV) (h : Hp) (v : IV) (h' : Hp) : Prop :=
  (∃ fn, P.funcs[n]? = some fn ∧ fn.body.isNone = false ∧ (fn.name == "runtime.NumGoroutine") = false) ∧
  ∀ (ι : Emb) (w : World) (args' : Array Value), VRs ι args args'.toList → HR ι h w → Free ι h h' →
    Calls P n args' w fun e w' => ∃ v' ι', e = .returned v' ∧ VR ι' v v' ∧ Fin ι h w ι' h' w'
structure LE where
  f : Nat
  args : List IV
  h : Hp
  r : IV
  h' : Hp
structure LiveP (P : Program) (e : LE) : Prop where
  n : e.f < 1000000
  up : e.h.next.num ≤ e.h'.next.num
  sim : SimAt P e.f e.args e.h e.r e.h'
section
variable {P : Program} {cf : CallF}
noncomputable def runL (cf : CallF) (e : LE) (M : List Nat) : Bool := match cf (pos e.f) e.args e.h with
  | some (v, h2) => cond (beqDeep v e.r) (beqHp (keepH e.h.next M h2) e.h') false
  | none => false
theorem live_of (hcf : CSim P cf) (hup : CUp cf) {e : LE} {M : List Nat} (hn : e.f < 1000000) (h : runL cf e M = true) : LiveP P e := by
  unfold runL at h
  split at h
  case h_2 => cases h
  rename_i v h2 hr
  obtain ⟨h3, h4⟩ := Go.Fg.cond_true h
  have e1 := beqDeep_eq _ h3
  have e2 := beqHp_eq h4
  have up := hup _ _ _ _ _ hr
  have nx : e.h'.next = h2.next := by rw [← e2]; rfl
  obtain ⟨k1, k2⟩ := hcf e.f e.args e.h v h2 hn hr
  refine ⟨hn, by rw [nx]; exact up, k1, fun ι w args' hv hH hF => (k2 ι w args' hv hH (fun b b1 b2 => hF b b1 (by rw [nx]; exact b2))).mono ?_⟩
  rintro q w' ⟨v', ι', rfl, m1, m2⟩
  refine ⟨v', ι', rfl, by rw [← e1]; exact m1, ?_⟩
  rw [← e2]
  exact m2.keep M

/-! Oracles: what may be known of calls. -/
noncomputable def liveO : List LE → CallF
  | [] => fun _ _ _ => none
  | e :: r => fun f args h => cond (cond (Pos.eq e.h.next h.next) (cond (Pos.eq f (pos e.f)) (cond (beqDeeps args e.args) (beqHp h e.h) false) false) false) (some (e.r, e.h')) (liveO r f args h)
theorem liveO_sim : ∀ {l : List LE}, (∀ e ∈ l, LiveP P e) → CSim P (liveO l) ∧ CUp (liveO l)
  | [], _ => ⟨fun _ _ _ _ _ _ e => (by cases e), fun _ _ _ _ _ e => (by cases e)⟩
  | e :: r, hl => by
    obtain ⟨ih1, ih2⟩ := liveO_sim (l := r) fun x hx => hl x (List.mem_cons_of_mem _ hx)
    have L := hl e (List.mem_cons_self ..)
    have inv : ∀ {f : Pos} {args : List IV} {h : Hp} {v : IV} {h' : Hp}, liveO (e :: r) f args h = some (v, h') → (f = pos e.f ∧ args = e.args ∧ h = e.h ∧ v = e.r ∧ h' = e.h') ∨ liveO r f args h = some (v, h') := fun {f args h v h'} q => by
      have q : cond (cond (Pos.eq e.h.next h.next) (cond (Pos.eq f (pos e.f)) (cond (beqDeeps args e.args) (beqHp h e.h) false) false) false) (some (e.r, e.h')) (liveO r f args h) = some (v, h') := q
      cases c : cond (Pos.eq e.h.next h.next) (cond (Pos.eq f (pos e.f)) (cond (beqDeeps args e.args) (beqHp h e.h) false) false) false with
      | false => rw [c] at q; exact .inr q
      | true =>
        rw [c] at q
        obtain ⟨c1, c⟩ := Go.Fg.cond_true c
        obtain ⟨c2, c⟩ := Go.Fg.cond_true c
        obtain ⟨c3, c4⟩ := Go.Fg.cond_true c
        cases q
        exact .inl ⟨Pos.eq_true c2, beqDeeps_eq _ c3, beqHp_eq c4, rfl, rfl⟩
    constructor
    · intro n args h v h' hn q
      rcases inv q with ⟨q1, rfl, rfl, rfl, rfl⟩ | q
      · have := pos_inj hn L.n q1
        subst this
        exact L.sim
      · exact ih1 n args h v h' hn q
    · intro g args h v h' q
      rcases inv q with ⟨_, _, rfl, _, rfl⟩ | q
      · exact L.up
      · exact ih2 _ _ _ _ _ q
/-- Known answers to arguments that are contents: nothing is frozen. -/
noncomputable def bareO (sp : Pos → List IV → Option IV) : CallF := fun f args h => match sp f args with
  | some r => cond (oldVs 0 args) (some (r, h)) none
  | none => none
theorem bareO_sim {sp : Pos → List IV → Option IV} (hs : PSim P sp) : CSim P (bareO sp) ∧ CUp (bareO sp) := by
  constructor
  · intro n args h v h' hn q
    unfold bareO at q
    split at q
    case h_2 => cases q
    rename_i r hr
    obtain ⟨q1, q2⟩ := cond_some q
    cases q2
    obtain ⟨k1, k2⟩ := hs n args _ hn hr
    refine ⟨k1, fun ι w args' hv hH hF => (k2 ι w args' ?_ hH.bare).mono ?_⟩
    · have := VRs.cut (n := 0) hv q1
      have e : ι.below 0 = ι.bare := by
        show Emb.mk _ _ = Emb.mk _ _
        congr 1
      rw [← e]; exact this
    · rintro e w' ⟨v', ι', h', rfl, m1, m2⟩
      exact ⟨v', ⟨ι.m, ι'.im⟩, rfl, m1.mono (Emb.bare_le_mk _ _), Fin.inner hH m2⟩
  · intro g args h v h' q
    unfold bareO at q
    split at q
    case h_2 => cases q
    obtain ⟨_, q⟩ := cond_some q
    cases q
    exact Nat.le_refl _
noncomputable def orO (a b : CallF) : CallF := fun f args h => match a f args h with
  | some r => some r
  | none => b f args h
theorem orO_sim {a b : CallF} (ha : CSim P a ∧ CUp a) (hb : CSim P b ∧ CUp b) : CSim P (orO a b) ∧ CUp (orO a b) := by
  constructor
  · intro n args h v h' hn q
    unfold orO at q
    split at q
    · cases q; exact ha.1 _ _ _ _ _ hn ‹_›
    · exact hb.1 _ _ _ _ _ hn q
  · intro g args h v h' q
    unfold orO at q
    split at q
    · cases q; exact ha.2 _ _ _ _ _ ‹_›
    · exact hb.2 _ _ _ _ _ q
/-- An oracle that is asked of some functions only. -/
noncomputable def forO (l : List Nat) (a : CallF) : CallF := fun f args h => cond (hasN (f.num - 1) l) (a f args h) none
theorem forO_sim {l : List Nat} {a : CallF} (ha : CSim P a ∧ CUp a) : CSim P (forO l a) ∧ CUp (forO l a) := by
  constructor
  · intro n args h v h' hn q
    obtain ⟨_, q⟩ := cond_some q
    exact ha.1 _ _ _ _ _ hn q
  · intro g args h v h' q
    obtain ⟨_, q⟩ := cond_some q
    exact ha.2 _ _ _ _ _ q
theorem pureO_sim {pl : Pos → List IV → Option IV} (hp : PSim P pl) : CSim P (pureC pl (fun _ _ _ => none)) ∧ CUp (pureC pl (fun _ _ _ => none)) :=
  ⟨fun n args h v h' hn q => pureC_sound hp (fun _ _ _ _ _ _ e => (by cases e)) n args h v h' hn q, fun _ _ _ _ _ q => pureC_up _ _ _ _ _ q⟩

/-! The machine that asks an oracle first. -/
noncomputable def callX (lk : CallF) (T : Pos → Option IFn) (N : Nat) : Nat → CallF
  | 0 => fun _ _ _ => none
  | n + 1 => fun f args h => match lk f args h with
    | some r => some r
    | none => callT T N (callX lk T N n) f args h
variable {T : Pos → Option IFn} {Z : Nat → Oper → Bool}
theorem callX_up {lk : CallF} (hl : CUp lk) {N : Nat} : ∀ n, CUp (callX lk T N n)
  | 0 => fun _ _ _ _ _ e => by cases e
  | n + 1 => fun g args h v h' e => by
    have e : (match lk g args h with | some r => some r | none => callT T N (callX lk T N n) g args h) = some (v, h') := e
    split at e
    · cases e; exact hl _ _ _ _ _ ‹_›
    · exact callT_up (callX_up hl n) _ _ _ _ _ e
theorem callX_sound (hm : P.follows .mixedOrders = true) (hT : ∀ n f, n < 1000000 → T (pos n) = some f → compFn P Z n = some f) {lk : CallF} (hl : CSim P lk ∧ CUp lk) {N : Nat} : ∀ n, CSim P (callX lk T N n)
  | 0 => fun _ _ _ _ _ _ e => by cases e
  | n + 1 => fun k args h v h' hk e => by
    have e : (match lk (pos k) args h with | some r => some r | none => callT T N (callX lk T N n) (pos k) args h) = some (v, h') := e
    split at e
    · cases e; exact hl.1 _ _ _ _ _ hk ‹_›
    · exact callT_sound hm hT (callX_sound hm hT hl n) (callX_up hl.2 n) k args h v h' hk e
end
end Go.Fg
/- Live known calls, told as an equation. -/
namespace Go.Fg
section
variable {P : Program} {cf : CallF}
noncomputable def runM (cf : CallF) (e : LE) (M : List Nat) : Option (IV × Hp) := match cf (pos e.f) e.args e.h with
  | some (v, h2) => some (v, keepH e.h.next M h2)
  | none => none
theorem live_ofM (hcf : CSim P cf) (hup : CUp cf) {e : LE} {M : List Nat} (hn : e.f < 1000000) (h : runM cf e M = some (e.r, e.h')) : LiveP P e := by
  unfold runM at h
  split at h
  case h_2 => cases h
  rename_i v h2 hr
  have e0 := Option.some.inj h
  have e1 : v = e.r := congrArg Prod.fst e0
  have e2 : keepH e.h.next M h2 = e.h' := congrArg Prod.snd e0
  have up := hup _ _ _ _ _ hr
  have nx : e.h'.next = h2.next := by rw [← e2]; rfl
  obtain ⟨k1, k2⟩ := hcf e.f e.args e.h v h2 hn hr
  refine ⟨hn, by rw [nx]; exact up, k1, fun ι w args' hv hH hF => (k2 ι w args' hv hH (fun b b1 b2 => hF b b1 (by rw [nx]; exact b2))).mono ?_⟩
  rintro q w' ⟨v', ι', rfl, m1, m2⟩
  refine ⟨v', ι', rfl, by rw [← e1]; exact m1, ?_⟩
  rw [← e2]
  exact m2.keep M
end
end Go.Fg
/- Live known calls out of the machine with lists of outcomes. -/
namespace Go.Fg
section
variable {P : Program} {cf : CallT}
noncomputable def sameL (e : LE) (M : List Nat) (r : IV × Hp) : Bool := cond (beqDeep r.1 e.r) (beqHp (keepH e.h.next M r.2) e.h') false
noncomputable def runT (cf : CallT) (e : LE) (M : List Nat) : Bool := cond (oldVs e.h.next.num e.args) (cond (allP (oldB e.h.next.num) e.h.t) (cond (oldV e.h'.next.num e.r) (cond (allP (oldB e.h'.next.num) e.h'.t) (cond (Nat.ble e.h.next.num e.h'.next.num)
  (match cf (pos e.f) e.args e.h with
    | some L => L.all (sameL e M)
    | none => false) false) false) false) false) false
theorem live_ofT (hcf : CSimT P cf) {e : LE} {M : List Nat} (hn : e.f < 1000000) (h : runT cf e M = true) : LiveP P e := by
  unfold runT at h
  obtain ⟨c1, h⟩ := Go.Fg.cond_true h
  obtain ⟨c2, h⟩ := Go.Fg.cond_true h
  obtain ⟨c3, h⟩ := Go.Fg.cond_true h
  obtain ⟨c4, h⟩ := Go.Fg.cond_true h
  obtain ⟨c5, h⟩ := Go.Fg.cond_true h
  split at h
  case h_2 => cases h
  rename_i L hL
  have up := Nat.le_of_ble_eq_true c5
  obtain ⟨k1, k2⟩ := hcf e.f e.args e.h L hn hL
  refine ⟨hn, up, k1, fun ι w args' hv hH hF => ?_⟩
  have hH0 : HR (ι.below e.h.next.num) e.h w := {
    pro := fun x r sh h => hH.pro x r sh h
    apart := fun b x L y r sh hb hl hL hy => hH.apart b x L y r sh hb hl (Emb.below_some hL).2 hy
    blk := fun b x L hb hL => (hH.blk b x L hb (Emb.below_some hL).2).cut (allP_get c2 (show PT.get e.h.t b = some x from hb))
    inj := fun b c L K h1 h2 k1 k2 => hH.inj b c L K h1 h2 (Emb.below_some k1).2 (Emb.below_some k2).2
    lt := fun b L hL => hH.lt b L (Emb.below_some hL).2
    low := hH.low }
  have full : FullF (ι.below e.h.next.num) e.h := fun b hb => by
    show (if b.num < e.h.next.num then ι b else none) = none
    rw [if_neg (by omega)]
  refine (k2 _ w args' (VRs.cut hv c1) hH0 full).mono ?_
  rintro q w' ⟨r, hr, v', ι1, rfl, m1, F0⟩
  have hs := List.all_eq_true.1 h r hr
  obtain ⟨s1, s2⟩ := Go.Fg.cond_true (show cond (beqDeep r.1 e.r) (beqHp (keepH e.h.next M r.2) e.h') false = true from hs)
  have e1 := beqDeep_eq _ s1
  have e2 := beqHp_eq s2
  have F := F0.keep M
  rw [e2] at F
  rw [e1] at m1
  let ι2 : Emb := ⟨fun b => if b.num < e.h'.next.num then ι1 b else ι b, ι1.im⟩
  have i2lt : ∀ {b : Pos}, b.num < e.h'.next.num → ι2 b = ι1 b := fun h => if_pos h
  have i2ge : ∀ {b : Pos}, ¬ b.num < e.h'.next.num → ι2 b = ι b := fun h => if_neg h
  have le0 : ι.le ι2 := ⟨fun b L hb => by
    by_cases a : b.num < e.h'.next.num
    · rw [i2lt a]
      by_cases c : b.num < e.h.next.num
      · exact F.ext.1 b L (by rw [Emb.below_lt c]; exact hb)
      · rw [hF b (by omega) a] at hb; cases hb
    · rw [i2ge a]; exact hb, F.ext.2⟩
  have le1 : (ι1.below e.h'.next.num).le ι2 := ⟨fun b L hb => by
    obtain ⟨h1, h2⟩ := Emb.below_some hb
    rw [i2lt h1]; exact h2, fun _ _ _ h => h⟩
  have old : ∀ {b : Pos}, e.h'.get b ≠ none → b.num < e.h'.next.num := fun hb => F.hr.low _ hb
  have some_ne : ∀ {b : Pos} {x : Blk}, e.h'.get b = some x → e.h'.get b ≠ none := fun h => by rw [h]; simp
  refine ⟨v', ι2, rfl, (m1.cut c3).mono le1, {
    ext := le0
    fresh := fun b h1 h2 => ?_
    hr := {
      pro := fun x r sh h => F.hr.pro x r sh h
      apart := fun b x L y r sh hb hl hL hy => F.hr.apart b x L y r sh hb hl (by rw [← i2lt (old (some_ne hb))]; exact hL) hy
      blk := fun b x L hb hL => ((F.hr.blk b x L hb (by rw [← i2lt (old (some_ne hb))]; exact hL)).cut (allP_get c4 (show PT.get e.h'.t b = some x from hb))).mono le1 rfl
      inj := fun b c L K h1 h2 k1 k2 => F.hr.inj b c L K h1 h2 (by rw [← i2lt (old h1)]; exact k1) (by rw [← i2lt (old h2)]; exact k2)
      lt := fun b L hL => by
        by_cases a : b.num < e.h'.next.num
        · rw [i2lt a] at hL; exact F.hr.lt b L hL
        · rw [i2ge a] at hL; exact Nat.lt_of_lt_of_le (hH.lt b L hL) F.size
      low := F.hr.low }
    up := up
    size := F.size
    frame := fun r hr hc => F.frame r hr fun b L h1 h2 => hc b L (Emb.below_some h1).2 h2
    cover := fun b L h1 h2 h3 => by
      rw [i2lt (old h2)] at h1
      obtain ⟨b0, L0, a1, a2, a3⟩ := F.cover b L h1 h2 h3
      exact ⟨b0, L0, (Emb.below_some a1).2, a2, a3⟩
    icov := fun x r sh hx hr => by
      rcases F.icov x r sh hx hr with h | ⟨b0, L0, a1, a2, a3⟩
      · exact .inl h
      · exact .inr ⟨b0, L0, (Emb.below_some a1).2, a2, a3⟩
    still := fun b h1 h2 => F.still b h1 (by rw [Emb.below_lt h1]; exact h2)
    out := F.out }⟩
  by_cases a : b.num < e.h'.next.num
  · rw [i2lt a] at h2
    have := F.fresh b (by
      show (if b.num < e.h.next.num then ι b else none) = none
      rw [h1]; split <;> rfl) h2
    exact this
  · rw [i2ge a] at h2; exact absurd h1 h2
end
end Go.Fg
/- The code layer again: an open region is done by one order where that can be told. -/
namespace Go.Fg
section
variable {P : Program} {pre : Pos → List Nat} {cf : CallT} {df : CallF} {nt : Nat} {ι0 ι : Emb} {H0 : Hp} {w0 w : World} {s : TSt} {u : USt} {a : Act}
inductive UCodeD where
  | skip
  | ops (l : List UOp)
  | draw (l : List (UOp × List Nat)) (d : Option (List IOper))
  | seq (a b : UCodeD)
  | cond (c : Od) (rd : List Pos) (a b : UCodeD)
  | block (id : Nat) (b : UCodeD)
  | loop (b : UCodeD)
  | mloop (d : Option Pos) (x : Od) (rd : List Pos) (F : List Pos) (r : List UOp) (b : UCodeD)
  | exit (id : Nat)
  | ret
  | bad
/-- An open region by one order, where the machine without lists can tell that it does not matter. -/
noncomputable def outD (u : USt) : Out → Option USt
  | .nrm τ h => some ⟨⟨τ, h, u.s.its⟩, []⟩
  | _ => none
noncomputable def drawD (df : CallF) (d : Option (List IOper)) (u : USt) : Option USt := match d with
  | some l => cond (isNil u.unk) (outD u (exDraw df l 0 ⟨[], []⟩ u.s.τ u.s.h)) none
  | none => none
noncomputable def semD (df : CallF) (N : Nat) (cf : CallT) : UCodeD → USt → Option (List UOut)
  | .skip, u => some [.nrm u]
  | .ops l, u => match opsU cf l u with
    | some L => some (L.map .nrm)
    | none => none
  | .draw l d, u => match drawD df d u with
    | some u' => some [.nrm u']
    | none => match anyL cf l l.length [([], u)] with
      | some L => some ((dedU L).map .nrm)
      | none => none
  | .seq a b, u => seqU (semD df N cf a u) (semD df N cf b)
  | .cond c rd a b, u => cond (noneIn rd u.unk) (match c.ev u.s.τ with
    | .b true => semD df N cf a u
    | .b false => semD df N cf b u
    | _ => none) none
  | .block id b, u => match semD df N cf b u with
    | some L => some (L.map (blockU id))
    | none => none
  | .loop b, u => loopU (semD df N cf b) N u
  | .mloop d x rd F r b, u => match cond (fewE x u) none (mloopU (bodyU cf (semD df N cf b) r) d x rd F u) with
    | some L => some L
    | none => loopU (bodyU cf (semD df N cf b) (⟨.next d x, rd, d⟩ :: r)) N u
  | .exit id, u => some [.exit id u]
  | .ret, u => some [.ret u]
  | .bad, _ => none

noncomputable def dstsCD : UCodeD → List Pos → List Pos
  | .ops o, l => dstsO o l
  | .draw o _, l => dstsW o l
  | .seq a b, l => dstsCD a (dstsCD b l)
  | .cond _ _ a b, l => dstsCD a (dstsCD b l)
  | .block _ b, l => dstsCD b l
  | .loop b, l => dstsCD b l
  | .mloop d _ _ _ r b, l => addD d (dstsO r (dstsCD b l))
  | _, l => l
def sndUD : UCodeD → UCodeD
  | .seq _ b => b
  | c => c
noncomputable def listD (P : Program) (nt : Nat) (ops : Array Oper) : Option (List IOper) :=
  let l := compOps P (fun _ => false) nt ops ops.toList (Region.before ops).toList
  if drawOk ops.toList l = true then some l else none
noncomputable def compUD (P : Program) (nt : Nat) : Code → UCodeD
  | .skip => .skip
  | .region _ ops false => .ops (ops.toList.map (compU P nt))
  | .region _ ops true => .draw (listU P nt ops) (listD P nt ops)
  | .seq a b => .seq (compUD P nt a) (compUD P nt b)
  | .cond c a b => match od c, posT [c] with
    | some x, some rd => .cond x rd (compUD P nt a) (compUD P nt b)
    | _, _ => .bad
  | .block id b => .block id (compUD P nt b)
  | .loop b => match firstU b with
    | some (o, r) => match nextU nt o with
      | some (d, z, rd) => .mloop d z rd (addD d (dstsO (r.map (compU P nt)) (dstsCD (sndUD (compUD P nt b)) []))) (r.map (compU P nt)) (sndUD (compUD P nt b))
      | none => .loop (compUD P nt b)
    | none => .loop (compUD P nt b)
  | .exit id => .exit id
  | .ret => .ret
  | _ => .bad

theorem drawD_sound (hm : P.follows .mixedOrders = true) {df : CallF} (hdf : CSim P df) (hup : CUp df) (hnt : nt ≤ 100000) {id : Nat} {ops : Array Oper} (T : TU pre nt ι0 H0 w0 ι u a w) {u' : USt} (h : drawD df (listD P nt ops) u = some u') : (Code.region id ops true).wp P (LandsU pre nt ι0 H0 w0 [.nrm u']) a w := by
  unfold drawD at h
  split at h
  case h_2 => cases h
  rename_i l hl
  obtain ⟨c1, h⟩ := cond_some h
  have hl' : (if drawOk ops.toList (compOps P (fun _ => false) nt ops ops.toList (Region.before ops).toList) = true then some (compOps P (fun _ => false) nt ops ops.toList (Region.before ops).toList) else none) = some l := hl
  split at hl'
  case isFalse => cases hl'
  rename_i hok
  cases hl'
  obtain ⟨b, TB, sz, df', sm⟩ := T
  have unk : u.unk = [] := isNil_iff.1 c1
  have sm' : ∀ t, t < 1000000 → a.tmps.getD t undef = b.tmps.getD t undef := fun t ht => sm t ht (by rw [unk]; rfl)
  have st : St nt ι u.s.τ u.s.h a w := ⟨fun t ht => by rw [sm' t ht]; exact TB.st.tr t ht, TB.st.hr, by rw [← sz]; exact TB.st.size, df'⟩
  generalize ho : exDraw df (compOps P (fun _ => false) nt ops ops.toList (Region.before ops).toList) 0 ⟨[], []⟩ u.s.τ u.s.h = out at h
  cases out with
  | nrm τ' h' =>
    cases h
    refine wp_mono (draw_sound hm df hdf hup nt id ops ι u.s.τ u.s.h a w _ hnt hok st ho (by simp) (TB.full.free _)) ?_
    rintro e a' w' ⟨rfl, ι', s', F⟩
    exact ⟨_, List.mem_singleton.2 rfl, rfl, ι', a', ⟨s', TB.fin.trans F, TB.full.fin F, TB.base, TB.its.fin TB.st.hr F⟩, rfl, s'.def_, fun t _ _ => rfl⟩
  | _ => cases h
def SoundUD (P : Program) (df : CallF) (nt : Nat) (ι0 : Emb) (H0 : Hp) (w0 : World) (N : Nat) (cf : CallT) (c : Code) : Prop := ∀ {pre : Pos → List Nat} {ι : Emb} {u : USt} {a : Act} {w : World} {L : List UOut}, TU pre nt ι0 H0 w0 ι u a w → semD df N cf (compUD P nt c) u = some L → c.wp P (LandsU pre nt ι0 H0 w0 L) a w
theorem loopD_sound (hcf : CSimT P cf) {N : Nat} {x : Code} (ih : SoundUD P df nt ι0 H0 w0 N cf x) (T : TU pre nt ι0 H0 w0 ι u a w) {L : List UOut} (h : loopU (semD df N cf (compUD P nt x)) N u = some L) : (Code.loop x).wp P (LandsU pre nt ι0 H0 w0 L) a w :=
  wp_loop_rounds N (roundsU_sound (fun T h => ih T h) N h T fun e a' w' k => k)
theorem semD_sound (hm : P.follows .mixedOrders = true) (hdf : CSim P df) (hup : CUp df) (hcf : CSimT P cf) {N : Nat} (hnt : nt ≤ 100000) : ∀ (c : Code), SoundUD P df nt ι0 H0 w0 N cf c ∧ ∀ x y, c = .seq x y → SoundUD P df nt ι0 H0 w0 N cf y := by
  intro c
  induction c with
  | skip => exact ⟨fun {pre ι u a w L} T h => by cases h; exact wp_skip ⟨_, List.mem_singleton.2 rfl, rfl, ι, T⟩, fun x y e => by cases e⟩
  | ret => exact ⟨fun {pre ι u a w L} T h => by cases h; exact wp_ret ⟨_, List.mem_singleton.2 rfl, rfl, ι, T⟩, fun x y e => by cases e⟩
  | exit id => exact ⟨fun {pre ι u a w L} T h => by cases h; exact wp_exit ⟨_, List.mem_singleton.2 rfl, rfl, ι, T⟩, fun x y e => by cases e⟩
  | region id ops draw =>
    refine ⟨fun {pre ι u a w L} T h => ?_, fun x y e => by cases e⟩
    cases draw with
    | true =>
      have h : (match drawD df (listD P nt ops) u with | some u' => some [UOut.nrm u'] | none => match anyL cf (listU P nt ops) (listU P nt ops).length [([], u)] with | some L => some ((dedU L).map UOut.nrm) | none => none) = some L := h
      split at h
      · rename_i u' hu'
        cases h
        exact drawD_sound hm hdf hup hnt T hu'
      have hlen : (listU P nt ops).length = ops.size := by unfold listU; simp
      rw [hlen] at h
      split at h
      case h_2 => cases h
      rename_i L1 h1
      cases h
      refine wp_region_any hm (anyL_sound hcf hnt ops.size h1 ([], u) (List.mem_singleton.2 rfl) (by simp) (fun i => ?_) (T.same rfl ⟨rfl, rfl, rfl, fun _ => rfl⟩) fun s' hs' ι' a' w' T' => ⟨_, List.mem_map.2 ⟨s', mem_dedU hs', rfl⟩, rfl, ι', T'⟩)
      show _ = false
      simp [Array.getD]
    | false =>
      refine wp_region ?_
      have h : (match opsU cf (ops.toList.map (compU P nt)) u with | some L => some (L.map UOut.nrm) | none => none) = some L := h
      split at h
      case h_2 => cases h
      rename_i L1 h1
      cases h
      have := opsU_sound (Q := LandsU pre nt ι0 H0 w0 (L1.map UOut.nrm)) hcf hnt (ops := ops) ops.toList 0 (fun j => by simp) T h1 fun s' hs' ι' a' w' T' => ⟨_, List.mem_map.2 ⟨s', hs', rfl⟩, rfl, ι', T'⟩
      rwa [Array.length_toList, ← List.range_eq_range'] at this
  | seq x y ihx ihy =>
    refine ⟨fun {pre ι u a w L} T h => ?_, fun x' y' e => by cases e; exact ihy.1⟩
    have h : seqU (semD df N cf (compUD P nt x) u) (semD df N cf (compUD P nt y)) = some L := h
    exact wp_seq (seqU_sound h (fun L1 h1 => ihx.1 T h1) (fun e a' w' _ k => k) fun s' A e1 e2 ι' a' w' T' => wp_mono (ihy.1 T' e1) fun e a2 w2 ⟨o, ho, hl⟩ => ⟨o, e2 o ho, hl⟩)
  | cond o x y ihx ihy =>
    refine ⟨fun {pre ι u a w L} T h => ?_, fun x y e => by cases e⟩
    unfold compUD at h
    split at h
    case h_2 => cases h
    rename_i z rd ho hrd
    have h : cond (noneIn rd u.unk) (match z.ev u.s.τ with | .b true => semD df N cf (compUD P nt x) u | .b false => semD df N cf (compUD P nt y) u | _ => none) none = some L := h
    obtain ⟨hn, h⟩ := cond_some h
    have hv : VR ι (z.ev u.s.τ) (a.eval o) := by
      obtain ⟨b, TB, sz, df, sm⟩ := T
      have := od_sound TB.st.tr ho
      rw [← known_eval sm hrd hn] at this
      exact this
    generalize z.ev u.s.τ = q at h hv
    cases q with
    | b t =>
      have hb := vr_b hv
      cases t with
      | true => exact wp_cond_true hb (ihx.1 T h)
      | false => exact wp_cond_false hb (ihy.1 T h)
    | _ => cases h
  | block id x ih =>
    refine ⟨fun {pre ι u a w L} T h => ?_, fun x y e => by cases e⟩
    have h : (match semD df N cf (compUD P nt x) u with | some L => some (L.map (blockU id)) | none => none) = some L := h
    split at h
    case h_2 => cases h
    rename_i L1 h1
    cases h
    refine wp_block (wp_mono (ih.1 T h1) ?_)
    rintro e a1 w1 ⟨o, ho, hl⟩
    cases o with
    | nrm s' => obtain ⟨rfl, h⟩ := hl; exact ⟨_, List.mem_map.2 ⟨_, ho, rfl⟩, rfl, h⟩
    | ret s' => obtain ⟨rfl, h⟩ := hl; exact ⟨_, List.mem_map.2 ⟨_, ho, rfl⟩, rfl, h⟩
    | exit k s' =>
      obtain ⟨rfl, hT⟩ := hl
      have hm : blockU id (.exit k s') ∈ L1.map (blockU id) := List.mem_map.2 ⟨_, ho, rfl⟩
      have e : blockU id (.exit k s') = cond (Nat.beq k id) (.nrm s') (.exit k s') := rfl
      rw [e] at hm
      show (if k = id then LandsU pre nt ι0 H0 w0 _ .normal a1 w1 else LandsU pre nt ι0 H0 w0 _ (.exit k) a1 w1)
      by_cases hk : k = id
      · subst hk
        rw [if_pos rfl]; rw [Nat.beq_refl] at hm
        exact ⟨_, hm, rfl, hT⟩
      · rw [if_neg hk]; rw [beq_no hk] at hm
        exact ⟨_, hm, rfl, hT⟩
  | loop x ih =>
    refine ⟨fun {pre ι u a w L} T h => ?_, fun x y e => by cases e⟩
    unfold compUD at h
    split at h
    case h_2 => exact loopD_sound hcf ih.1 T h
    rename_i o r hf
    split at h
    case h_2 => exact loopD_sound hcf ih.1 T h
    rename_i d z rd hx
    obtain ⟨id, ops, y, rfl, hops⟩ := firstU_some hf
    obtain ⟨hg, hd, x, ho, hz, hrd⟩ := nextU_some hx
    have hy : SoundUD P df nt ι0 H0 w0 N cf y := ih.2 _ _ rfl
    have hb : ∀ {pre : Pos → List Nat} {ι : Emb} {u : USt} {a : Act} {w : World} {L : List UOut}, TU pre nt ι0 H0 w0 ι u a w → bodyU cf (semD df N cf (compUD P nt y)) (r.map (compU P nt)) u = some L → ∀ {Q : Exit → Act → World → Prop}, (∀ e a' w', LandsU pre nt ι0 H0 w0 L e a' w' → Q e a' w') →
        wpOps P ops (Exit.then (fun a w => y.wp P Q a w) Q) (List.range' 1 r.length) a w := fun {pre ι u a w L} T h {Q} hQ =>
      bodyU_sound hcf hnt (fun T h => hy T h) r 1 (fun j => by
        have : ops.toList[1 + j]? = r[j]? := by rw [hops, Nat.add_comm]; rfl
        simpa using this.symm) T h hQ
    have h : (match cond (fewE z u) none (mloopU (bodyU cf (semD df N cf (compUD P nt y)) (r.map (compU P nt))) d z rd (addD d (dstsO (r.map (compU P nt)) (dstsCD (compUD P nt y) []))) u) with
      | some L => some L
      | none => loopU (bodyU cf (semD df N cf (compUD P nt y)) (⟨.next d z, rd, d⟩ :: r.map (compU P nt))) N u) = some L := h
    split at h
    · rename_i L1 hL
      cases h
      cases c : fewE z u with
      | true => rw [c] at hL; cases hL
      | false =>
        rw [c] at hL
        exact mloop_sound hnt hops hg hd ho hz hrd (fun T h => hb T h) T hL
    · have hc : compU P nt o = ⟨.next d z, rd, d⟩ := by
        unfold compU
        rw [hrd]
        simp only []
        have : compT P nt o = .next d z := by
          unfold compT
          rw [hg, hd, ho]
          simp only [hz]
        rw [this, ← (dstT_some hd).1]
      rw [← hc, ← List.map_cons, ← hops] at h
      refine wp_loop_rounds N (roundsU_sound (fun {ι u a w L} T h => wp_seq (wp_region ?_)) N h T fun e a' w' k => k)
      have := bodyU_sound (ops := ops) hcf hnt (fun T h => hy T h) ops.toList 0 (fun j => by simp) T h (Q := LandsU pre nt ι0 H0 w0 L) fun e a' w' k => k
      rwa [Array.length_toList, ← List.range_eq_range'] at this
  | _ => exact ⟨fun {pre ι u a w L} T h => (by cases h), fun x y e => (by cases e)⟩

/-! Functions. -/
structure DFn where
  res : List IRes
  body : UCodeD
noncomputable def compDFn (P : Program) (f : Nat) : Option DFn := match P.funcs[f]? with
  | some fn => match fn.body, compRes P fn.results.toList with
    | some c, some rs => if fn.ntmps ≤ 100000 ∧ fn.name ≠ "runtime.NumGoroutine" then some ⟨rs, compUD P fn.ntmps c⟩ else none
    | _, _ => none
  | none => none
noncomputable def callFnD (df : CallF) (N : Nat) (cf : CallT) (fn : DFn) (args : List IV) (h : Hp) : Option (List (IV × Hp)) := match semD df N cf fn.body ⟨⟨frameOf args .h .nil, h, []⟩, []⟩ with
  | some L => bindAll (leaveU fn.res) L
  | none => none
noncomputable def callND (cf : CallF) (T : Pos → Option DFn) (N : Nat) : Nat → CallT
  | 0 => fun _ _ _ => none
  | n + 1 => fun f args h => match T f with
    | some fn => callFnD cf N (callND cf T N n) fn args h
    | none => match cf f args h with
      | some r => some [r]
      | none => none
theorem compDFn_some {n : Nat} {f : DFn} (h : compDFn P n = some f) : ∃ fn c, P.funcs[n]? = some fn ∧ fn.body = some c ∧ compRes P fn.results.toList = some f.res ∧ fn.ntmps ≤ 100000 ∧ fn.name ≠ "runtime.NumGoroutine" ∧ f.body = compUD P fn.ntmps c := by
  unfold compDFn at h
  split at h
  · rename_i fn hfn
    split at h
    · rename_i c rs hb hr
      split at h
      · rename_i hc
        cases h
        exact ⟨fn, c, hfn, hb, hr, hc.1, hc.2, rfl⟩
      · cases h
    · cases h
  · cases h
theorem callFnD_sound (hm : P.follows .mixedOrders = true) (hdf : CSim P df) (hup : CUp df) (hcf : CSimT P cf) {N n : Nat} {f : DFn} (hc : compDFn P n = some f) {args : List IV} {h : Hp} {L : List (IV × Hp)} (e : callFnD df N cf f args h = some L) :
    (∃ fn, P.funcs[n]? = some fn ∧ fn.body.isNone = false ∧ (fn.name == "runtime.NumGoroutine") = false) ∧
    ∀ (ι : Emb) (w : World) (args' : Array Value), VRs ι args args'.toList → HR ι h w → FullF ι h →
      Calls P n args' w fun e w' => ∃ r ∈ L, ∃ v' ι', e = .returned v' ∧ VR ι' r.1 v' ∧ Fin ι h w ι' r.2 w' := by
  obtain ⟨fn, c, h1, h2, h3, h4, h5, h6⟩ := compDFn_some hc
  refine ⟨⟨fn, h1, by rw [h2]; rfl, by simpa using h5⟩, fun ι w args' hargs hH hfull => ?_⟩
  unfold callFnD at e
  rw [h6] at e
  split at e
  case h_2 => cases e
  rename_i L1 hL
  refine calls_of_wp h1 h2 ?_
  have hs : TS (fun _ => []) fn.ntmps ι h w ι ⟨frameOf args .h .nil, h, []⟩ { tmps := args' ++ Array.replicate (fn.ntmps - args'.size) undef, defers := [] } w := ⟨⟨frame_sound hargs, hH, by simp; omega, rfl⟩, .refl hH, hfull, hfull, ⟨fun p it k => (by cases k), fun p q it jt _ _ k => (by cases k)⟩⟩
  have hu : TU (fun _ => []) fn.ntmps ι h w ι ⟨⟨frameOf args .h .nil, h, []⟩, []⟩ { tmps := args' ++ Array.replicate (fn.ntmps - args'.size) undef, defers := [] } w := ⟨_, hs, rfl, rfl, fun t _ _ => rfl⟩
  refine wp_mono ((semD_sound hm hdf hup hcf h4 c).1 hu hL) ?_
  rintro e2 a2 w2 ⟨o, ho, hl⟩
  obtain ⟨A, e1, e3⟩ := bindAll_mem e o ho
  have fin : ∀ u', cond (noneIn (resP f.res) u'.unk) (match resultsI u'.s.τ u'.s.h f.res with | some vs => some [(oneOf vs, u'.s.h)] | none => none) none = some A → ∀ ι', TU (fun _ => []) fn.ntmps ι h w ι' u' a2 w2 → a2.defers = [] ∧ ∃ v', (results fn a2.tmps).run P w2 = .ok v' w2 ∧ ∃ r ∈ L, ∃ v2 ι', Ending.returned v' = .returned v2 ∧ VR ι' r.1 v2 ∧ Fin ι h w ι' r.2 w2 := fun u' hr ι' ⟨b, TB, sz, df, sm⟩ => by
    obtain ⟨hn, hr⟩ := cond_some hr
    split at hr
    case h_2 => cases hr
    rename_i vs k2
    cases hr
    obtain ⟨v', r1, r2⟩ := results_sound TB.st.tr TB.st.hr h3 k2
    rw [results_known sm h3 hn]
    exact ⟨df, v', r1, _, e3 _ (List.mem_singleton.2 rfl), v', ι', rfl, r2, TB.fin⟩
  cases o with
  | nrm s' =>
    obtain ⟨rfl, ι', T⟩ := hl
    exact fin s' e1 ι' T
  | ret s' =>
    obtain ⟨rfl, ι', T⟩ := hl
    exact fin s' e1 ι' T
  | exit id s' => cases e1
theorem callND_sound (hm : P.follows .mixedOrders = true) {cf : CallF} (hcf : CSim P cf) (hup : CUp cf) {T : Pos → Option DFn} (hT : ∀ n f, n < 1000000 → T (pos n) = some f → compDFn P n = some f) {N : Nat} : ∀ n, CSimT P (callND cf T N n)
  | 0 => fun _ _ _ _ _ e => by cases e
  | n + 1 => fun g args h L hg e => by
    have e : (match T (pos g) with | some fn => callFnD cf N (callND cf T N n) fn args h | none => match cf (pos g) args h with | some r => some [r] | none => none) = some L := e
    split at e
    · rename_i f hf
      exact callFnD_sound hm hcf hup (callND_sound hm hcf hup hT n) (hT g f hg hf) e
    · split at e
      case h_2 => cases e
      rename_i r hr
      cases e
      obtain ⟨k1, k2⟩ := hcf g args h _ _ hg hr
      refine ⟨k1, fun ι w args' hv hH hF => (k2 ι w args' hv hH (hF.free _)).mono ?_⟩
      rintro e w' ⟨v', ι', h1, h2, h3⟩
      exact ⟨r, List.mem_singleton.2 rfl, v', ι', h1, h2, h3⟩
end
end Go.Fg
