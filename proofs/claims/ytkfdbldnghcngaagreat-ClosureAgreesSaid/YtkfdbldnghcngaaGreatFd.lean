/- Code with names for the places where ways meet: definitions. -/
import Derived.Test.YtkfdbldnghcngaaGreatFa
import Derived.Test.YtkfdbldnghcngaaGreatFc
import Derived.RowKit3
import Derived.ChangeArms
import Derived.ProofKit
import Derived.ChangeStays
import Derived.ChangeOld
set_option linter.unusedSectionVars false
set_option linter.unusedSimpArgs false
set_option linter.unusedVariables false
namespace Go.Fg

/-- Code with labels: where ways meet, and at loops; which temporaries are looked at from there on. -/
inductive LC where
  | skip
  | ops (l : List IOper)
  | draw (l : List IOper)
  | seq (a b : LC)
  | join (j : Nat) (L : List Pos) (a b : LC)
  | cond (c : Od) (a b : LC)
  | block (id : Nat) (b : LC)
  | loop (j : Nat) (L : List Pos) (b : LC)
  | exit (id : Nat)
  | ret
  | bad

def LC.erase : LC → ICode
  | .skip => .skip
  | .ops l => .ops l
  | .draw l => .draw l
  | .seq a b => .seq a.erase b.erase
  | .join _ _ a b => .seq a.erase b.erase
  | .cond c a b => .cond c a.erase b.erase
  | .block id b => .block id b.erase
  | .loop _ _ b => .loop b.erase
  | .exit id => .exit id
  | .ret => .ret
  | .bad => .bad

/-- What is still to be done behind a piece of code. -/
inductive LI where
  | code (b : LC) (lab : Option (Nat × List Pos))
  | blk (id : Nat)
  | loop (j : Nat) (L : List Pos) (b : LC)

/-! Which temporaries are looked at. -/
noncomputable def memP (p : Pos) : List Pos → Bool := @List.rec Pos (fun _ => Bool) false (fun q _ r => cond (Pos.eq p q) true r)
noncomputable def addP (p : Pos) (l : List Pos) : List Pos := cond (memP p l) l (p :: l)
noncomputable def unionP (x y : List Pos) : List Pos := @List.rec Pos (fun _ => List Pos) y (fun p _ r => addP p r) x
noncomputable def delP (p : Pos) (l : List Pos) : List Pos := @List.rec Pos (fun _ => List Pos) [] (fun q _ r => cond (Pos.eq p q) r (q :: r)) l
noncomputable def subP (x y : List Pos) : Bool := @List.rec Pos (fun _ => Bool) true (fun p _ r => cond (memP p y) r false) x
def odP : List Od → List Pos
  | [] => []
  | .t n :: r => n :: odP r
  | .c _ :: r => odP r
def guardP : Option (Pos × Bool) → List Pos
  | some (t, _) => [t]
  | none => []
def Io.odsX : Io → List Od
  | .rd _ xs | .al _ xs | .ef _ xs => xs
  | .call f xs => f :: xs
  | .bad => []
noncomputable def lvOp (o : IOper) (N : List Pos) : List Pos := unionP (guardP o.guard) (unionP (odP o.op.odsX) (match o.dst with | some d => delP d N | none => N))
noncomputable def lvOps : List IOper → List Pos → List Pos
  | [], N => N
  | o :: r, N => lvOp o (lvOps r N)
def resP : List IRes → List Pos
  | [] => []
  | .t n :: r => n :: resP r
  | .cell a _ :: r => a :: resP r
  | .cell1 a :: r => a :: resP r
/-- What is looked at from a piece of code on: N behind it, X behind its exits, F at the function's end. -/
noncomputable def lv (F : List Pos) : LC → List Pos → (Nat → List Pos) → List Pos
  | .skip, N, _ => N
  | .ops l, N, _ => lvOps l N
  | .draw l, N, _ => lvOps l N
  | .seq a b, N, X => lv F a (lv F b N X) X
  | .join _ L a _, _, X => lv F a L X
  | .cond c a b, N, X => unionP (odP [c]) (unionP (lv F a N X) (lv F b N X))
  | .block id b, N, X => lv F b N (fun k => cond (Nat.beq k id) N (X k))
  | .loop _ L _, _, _ => L
  | .exit id, _, X => X id
  | .ret, _, _ => F
  | .bad, _, _ => []
/-- Are the labels' lists long enough? -/
noncomputable def lvOk (F : List Pos) : LC → List Pos → (Nat → List Pos) → Bool
  | .seq a b, N, X => cond (lvOk F b N X) (lvOk F a (lv F b N X) X) false
  | .join _ L a b, N, X => cond (subP (lv F b N X) L) (cond (lvOk F b N X) (lvOk F a L X) false) false
  | .cond _ a b, N, X => cond (lvOk F a N X) (lvOk F b N X) false
  | .block id b, N, X => lvOk F b N (fun k => cond (Nat.beq k id) N (X k))
  | .loop _ L b, _, X => cond (subP (lv F b L X) L) (lvOk F b L X) false
  | _, _, _ => true

/-- The places with labels. -/
structure Pt where
  j : Nat
  L : List Pos
  c : LC
  S : List LI
def pts : LC → List LI → List Pt
  | .seq a b, S => pts a (.code b none :: S) ++ pts b S
  | .join j L a b, S => ⟨j, L, b, S⟩ :: (pts a (.code b (some (j, L)) :: S) ++ pts b S)
  | .cond _ a b, S => pts a S ++ pts b S
  | .block id b, S => pts b (.blk id :: S)
  | .loop j L b, S => ⟨j, L, .loop j L b, S⟩ :: pts b (.loop j L b :: S)
  | _, _ => []
noncomputable def findPt (j : Nat) (l : List Pt) : Option Pt := @List.rec Pt (fun _ => Option Pt) none (fun p _ r => cond (Nat.beq p.j j) (some p) r) l
noncomputable def memN (n : Nat) (l : List Nat) : Bool := @List.rec Nat (fun _ => Bool) false (fun m _ r => cond (Nat.beq n m) true r) l
noncomputable def nodupN (l : List Nat) : Bool := @List.rec Nat (fun _ => Bool) true (fun m t r => cond (memN m t) false r) l

/-! Labelling. -/
/-- Is there nothing but operations? -/
def plain : ICode → Bool
  | .skip | .ops _ | .draw _ | .exit _ | .ret | .bad => true
  | .seq a b => plain a && plain b
  | _ => false
/-- Labels from n on. -/
noncomputable def label (F : List Pos) : ICode → Nat → List Pos → (Nat → List Pos) → LC × Nat
  | .skip, n, _, _ => (.skip, n)
  | .ops l, n, _, _ => (.ops l, n)
  | .draw l, n, _, _ => (.draw l, n)
  | .seq a b, n, N, X =>
    let (b', n) := label F b n N X
    let L := lv F b' N X
    if plain a then
      let (a', n) := label F a n L X
      (.seq a' b', n)
    else
      let (a', n') := label F a (n + 1) L X
      (.join n L a' b', n')
  | .cond c a b, n, N, X =>
    let (a', n) := label F a n N X
    let (b', n) := label F b n N X
    (.cond c a' b', n)
  | .block id b, n, N, X =>
    let (b', n) := label F b n N (fun k => cond (Nat.beq k id) N (X k))
    (.block id b', n)
  | .loop b, n, _, X =>
    let L := lv F (label F b (n + 1) [] X).1 [] X
    let (b', n') := label F b (n + 1) L X
    (.loop n L b', n')
  | .exit id, n, _, _ => (.exit id, n)
  | .ret, n, _, _ => (.ret, n)
  | .bad, n, _, _ => (.bad, n)

structure LFn where
  res : List IRes
  code : LC
noncomputable def labFn (f : IFn) : LFn := ⟨f.res, (label (resP f.res) f.body 1 (resP f.res) (fun _ => [])).1⟩
noncomputable def okFn (f : LFn) : Bool := cond (lvOk (resP f.res) f.code (resP f.res) (fun _ => [])) (nodupN ((pts f.code []).map (·.j))) false
end Go.Fg
/- Code with names for the places where ways meet: what is not looked at does not matter. -/
namespace Go.Fg

/-! Lists of temporaries. -/
theorem Pos.eq_self (p : Pos) : Pos.eq p p = true := by
  induction p with
  | h => rfl
  | o p ih => exact ih
  | i p ih => exact ih
theorem Pos.eq_iff {p q : Pos} : Pos.eq p q = true ↔ p = q := ⟨Pos.eq_true, fun h => by rw [h]; exact Pos.eq_self q⟩
theorem memP_nil (p : Pos) : memP p [] = false := rfl
theorem memP_cons (p q : Pos) (l : List Pos) : memP p (q :: l) = cond (Pos.eq p q) true (memP p l) := rfl
theorem memP_iff {p : Pos} : ∀ {l : List Pos}, memP p l = true ↔ p ∈ l
  | [] => by simp [memP_nil]
  | q :: l => by
    rw [memP_cons, List.mem_cons]
    cases c : Pos.eq p q with
    | true => simp [Pos.eq_true c]
    | false =>
      have : p ≠ q := fun e => by rw [e, Pos.eq_self] at c; cases c
      simp [this, memP_iff]
theorem mem_addP {p q : Pos} {l : List Pos} : q ∈ addP p l ↔ q = p ∨ q ∈ l := by
  unfold addP
  cases c : memP p l with
  | true => exact ⟨fun h => .inr h, fun h => h.elim (fun e => by rw [e]; exact memP_iff.1 c) id⟩
  | false => simp
theorem mem_unionP {q : Pos} : ∀ {x y : List Pos}, q ∈ unionP x y ↔ q ∈ x ∨ q ∈ y
  | [], y => by show q ∈ y ↔ _; simp
  | p :: x, y => by
    show q ∈ addP p (unionP x y) ↔ _
    rw [mem_addP, mem_unionP, List.mem_cons, or_assoc]
theorem mem_delP {p q : Pos} : ∀ {l : List Pos}, q ∈ delP p l ↔ q ∈ l ∧ q ≠ p
  | [] => by show q ∈ ([] : List Pos) ↔ _; simp
  | r :: l => by
    show q ∈ cond (Pos.eq p r) (delP p l) (r :: delP p l) ↔ _
    cases c : Pos.eq p r with
    | true =>
      have := Pos.eq_true c
      subst this
      show q ∈ delP p l ↔ _
      rw [mem_delP, List.mem_cons]
      constructor
      · rintro ⟨a, b⟩; exact ⟨.inr a, b⟩
      · rintro ⟨a | a, b⟩
        · exact absurd a b
        · exact ⟨a, b⟩
    | false =>
      have : r ≠ p := fun e => by rw [e, Pos.eq_self] at c; cases c
      show q ∈ r :: delP p l ↔ _
      simp only [List.mem_cons, mem_delP]
      constructor
      · rintro (a | ⟨a, b⟩)
        · exact ⟨.inl a, by rw [a]; exact this⟩
        · exact ⟨.inr a, b⟩
      · rintro ⟨a | a, b⟩
        · exact .inl a
        · exact .inr ⟨a, b⟩
theorem subP_mem : ∀ {x y : List Pos}, subP x y = true → ∀ q ∈ x, q ∈ y
  | [], _, _, q, hq => by cases hq
  | p :: x, y, h, q, hq => by
    have h : cond (memP p y) (subP x y) false = true := h
    obtain ⟨h1, h2⟩ := cond_true h
    rcases List.mem_cons.1 hq with rfl | hq
    · exact memP_iff.1 h1
    · exact subP_mem h2 q hq

/-! Frames that agree. -/
def Ag (L : List Pos) (τ τ' : Fm) : Prop := ∀ p ∈ L, Fm.at τ p = Fm.at τ' p
theorem Ag.sub {L M : List Pos} {τ τ' : Fm} (h : Ag L τ τ') (s : ∀ p ∈ M, p ∈ L) : Ag M τ τ' := fun p hp => h p (s p hp)
theorem Ag.od {L : List Pos} {τ τ' : Fm} (h : Ag L τ τ') {x : Od} (s : ∀ p ∈ odP [x], p ∈ L) : x.ev τ = x.ev τ' := by
  cases x with
  | t n => exact h n (s n (by simp [odP]))
  | c v => rfl
theorem Ag.ods {L : List Pos} {τ τ' : Fm} (h : Ag L τ τ') : ∀ {xs : List Od}, (∀ p ∈ odP xs, p ∈ L) → evs τ xs = evs τ' xs
  | [], _ => rfl
  | .t n :: r, s => by
    show Fm.at τ n :: evs τ r = Fm.at τ' n :: evs τ' r
    rw [h n (s n (by simp [odP])), Ag.ods h (fun p hp => s p (by simp [odP, hp]))]
  | .c v :: r, s => by
    show v :: evs τ r = v :: evs τ' r
    rw [Ag.ods (xs := r) h s]
theorem Ag.put {L : List Pos} {τ τ' : Fm} {d : Option Pos} (h : Ag (match d with | some d => delP d L | none => L) τ τ') (v : IV) : Ag L (putd τ d v) (putd τ' d v) := by
  cases d with
  | none => exact h
  | some d =>
    intro p hp
    by_cases e : p = d
    · subst e; rw [Fm.at_putd_eq, Fm.at_putd_eq]
    · rw [Fm.at_putd_ne _ _ e, Fm.at_putd_ne _ _ e]; exact h p (mem_delP.2 ⟨hp, e⟩)
theorem Ag.wanted {L : List Pos} {τ τ' : Fm} (h : Ag L τ τ') {g : Option (Pos × Bool)} (s : ∀ p ∈ guardP g, p ∈ L) : wantedI g τ = wantedI g τ' := by
  cases g with
  | none => rfl
  | some x =>
    obtain ⟨t, w⟩ := x
    show wantV w (Fm.at τ t) = wantV w (Fm.at τ' t)
    rw [h t (s t (by simp [guardP]))]
theorem Ag.exOp {L : List Pos} {τ τ' : Fm} (h : Ag L τ τ') (cf : CallF) {o : Io} (s : ∀ p ∈ odP o.odsX, p ∈ L) (H : Hp) : Go.Fg.exOp cf o τ H = Go.Fg.exOp cf o τ' H := by
  cases o with
  | rd r xs => show exRd r (evs τ xs) H = exRd r (evs τ' xs) H; rw [h.ods (xs := xs) s]
  | al a xs => show exAl a (evs τ xs) H = exAl a (evs τ' xs) H; rw [h.ods (xs := xs) s]
  | ef e xs => show e.ev (evs τ xs) H = e.ev (evs τ' xs) H; rw [h.ods (xs := xs) s]
  | call f xs =>
    show exCall cf (f.ev τ) (evs τ xs) H = exCall cf (f.ev τ') (evs τ' xs) H
    have s1 : ∀ p ∈ odP [f], p ∈ L := fun p hp => s p (by
      cases f with
      | t n => simp [odP] at hp; simp [Io.odsX, odP, hp]
      | c v => simp [odP] at hp)
    have s2 : ∀ p ∈ odP xs, p ∈ L := fun p hp => s p (by
      cases f with
      | t n => simp [Io.odsX, odP, hp]
      | c v => simp [Io.odsX, odP, hp])
    rw [h.od s1, h.ods s2]
  | bad => rfl
theorem Ag.frzOds {L : List Pos} : ∀ {l : List Od} {τ τ' : Fm} (H : Hp), Ag L τ τ' → (∀ p ∈ odP l, p ∈ L) →
    (Go.Fg.frzOds H τ l = none ∧ Go.Fg.frzOds H τ' l = none) ∨ ∃ τ1 τ1' H1, Go.Fg.frzOds H τ l = some (τ1, H1) ∧ Go.Fg.frzOds H τ' l = some (τ1', H1) ∧ Ag L τ1 τ1'
  | [], τ, τ', H, h, _ => .inr ⟨τ, τ', H, rfl, rfl, h⟩
  | .c _ :: r, τ, τ', H, h, s => Ag.frzOds (l := r) H h s
  | .t n :: r, τ, τ', H, h, s => by
    have e := h n (s n (by simp [odP]))
    unfold Go.Fg.frzOds
    rw [← e]
    cases Nat.ble n.num 1000000 with
    | false => exact .inl ⟨rfl, rfl⟩
    | true =>
      show (_ ∧ (cond true _ none) = none) ∨ _
      cases frz H (Fm.at τ n) with
      | none => exact .inl ⟨rfl, rfl⟩
      | some x =>
        obtain ⟨u, H1⟩ := x
        refine Ag.frzOds (l := r) H1 (Ag.put (d := some n) (fun p hp => h p (mem_delP.1 hp).1) u) (fun p hp => s p (by simp [odP, hp]))
theorem toFz_sub (o : Io) : ∀ p ∈ odP o.toFz, p ∈ odP o.odsX := by
  intro p hp
  cases o with
  | rd r xs => exact hp
  | al a xs => exact hp
  | ef e xs =>
    cases xs with
    | nil => simp [Io.toFz, odP] at hp
    | cons x xs =>
      have hp' : p ∈ odP xs := hp
      cases x
      · exact List.mem_cons_of_mem _ hp'
      · exact hp'
  | call f xs =>
    cases xs with
    | nil => simp [Io.toFz, odP] at hp
    | cons x xs =>
      have hp' : p ∈ odP xs := hp
      cases f <;> cases x
      · exact List.mem_cons_of_mem _ (List.mem_cons_of_mem _ hp')
      · exact List.mem_cons_of_mem _ hp'
      · exact List.mem_cons_of_mem _ hp'
      · exact hp'
  | bad => exact hp
theorem Ag.exOpz {L : List Pos} {τ τ' : Fm} (h : Ag L τ τ') (cf : CallF) {o : IOper} (s : ∀ p ∈ odP o.op.odsX, p ∈ L) (H : Hp) : Go.Fg.exOpz cf o τ H = Go.Fg.exOpz cf o τ' H := by
  unfold Go.Fg.exOpz
  cases o.fz with
  | false => exact h.exOp cf s H
  | true =>
    show exFz cf o.op τ H = exFz cf o.op τ' H
    unfold exFz
    rcases Ag.frzOds H h (fun p hp => s p (toFz_sub _ p hp)) with ⟨e1, e2⟩ | ⟨τ1, τ1', H1, e1, e2, k⟩
    · rw [e1, e2]
    · rw [e1, e2]; exact k.exOp cf s H1

/-- Outcomes that agree. -/
def OA (F N : List Pos) (X : Nat → List Pos) : Out → Out → Prop
  | .nrm τ h, .nrm τ' h' => h = h' ∧ Ag N τ τ'
  | .ret τ h, .ret τ' h' => h = h' ∧ Ag F τ τ'
  | .exit k τ h, .exit k' τ' h' => k = k' ∧ h = h' ∧ Ag (X k) τ τ'
  | .fail, .fail => True
  | _, _ => False
section
variable {F : List Pos} {X : Nat → List Pos} {cf : CallF}
theorem lvOp_ag {o : IOper} {N : List Pos} {τ τ' : Fm} (h : Ag (lvOp o N) τ τ') : wantedI o.guard τ = wantedI o.guard τ' ∧ (∀ H, exOpz cf o τ H = exOpz cf o τ' H) ∧ (∀ H, exOp cf o.op τ H = exOp cf o.op τ' H) ∧ evs τ (match o.op with | .rd _ xs => xs | _ => []) = evs τ' (match o.op with | .rd _ xs => xs | _ => []) ∧ ∀ v, Ag N (putd τ o.dst v) (putd τ' o.dst v) := by
  unfold lvOp at h
  have h1 : ∀ p ∈ guardP o.guard, p ∈ unionP (guardP o.guard) (unionP (odP o.op.odsX) (match o.dst with | some d => delP d N | none => N)) := fun p hp => mem_unionP.2 (.inl hp)
  have h2 : ∀ p ∈ odP o.op.odsX, p ∈ unionP (guardP o.guard) (unionP (odP o.op.odsX) (match o.dst with | some d => delP d N | none => N)) := fun p hp => mem_unionP.2 (.inr (mem_unionP.2 (.inl hp)))
  refine ⟨h.wanted h1, fun H => h.exOpz cf h2 H, fun H => h.exOp cf h2 H, ?_, fun v => Ag.put (h.sub fun p hp => mem_unionP.2 (.inr (mem_unionP.2 (.inr hp)))) v⟩
  cases ho : o.op with
  | rd r xs => rw [ho] at h2 h; exact h.ods h2
  | _ => rfl
theorem exOps_ag : ∀ {l : List IOper} {N : List Pos} {τ τ' : Fm} {H : Hp}, Ag (lvOps l N) τ τ' → OA F N X (exOps cf l τ H) (exOps cf l τ' H)
  | [], N, τ, τ', H, h => ⟨rfl, h⟩
  | o :: r, N, τ, τ', H, h => by
    obtain ⟨h1, h2, _, _, h3⟩ := lvOp_ag (cf := cf) (show Ag (lvOp o (lvOps r N)) τ τ' from h)
    unfold exOps
    rw [← h1]
    cases wantedI o.guard τ with
    | false => exact exOps_ag (l := r) (h3 _)
    | true =>
      show OA F N X (opThen (exOps cf r) τ o.dst (exOpz cf o τ H)) (opThen (exOps cf r) τ' o.dst (exOpz cf o τ' H))
      rw [← h2]
      cases exOpz cf o τ H with
      | none => trivial
      | some x => obtain ⟨v, H'⟩ := x; exact exOps_ag (l := r) (h3 v)
theorem exDraw_ag : ∀ {l : List IOper} {n : Nat} {d : DSt} {N : List Pos} {τ τ' : Fm} {H : Hp}, Ag (lvOps l N) τ τ' → OA F N X (exDraw cf l n d τ H) (exDraw cf l n d τ' H)
  | [], n, d, N, τ, τ', H, h => ⟨rfl, h⟩
  | o :: r, n, d, N, τ, τ', H, h => by
    obtain ⟨h1, _, h2, h4, h3⟩ := lvOp_ag (cf := cf) (show Ag (lvOp o (lvOps r N)) τ τ' from h)
    rw [exDraw_cons, exDraw_cons, ← h1]
    cases wantedI o.guard τ with
    | false => exact exDraw_ag (l := r) (h3 _)
    | true =>
      show OA F N X (drawThen (exDraw cf r (n + 1)) n o d τ H (exOp cf o.op τ H)) (drawThen (exDraw cf r (n + 1)) n o d τ' H (exOp cf o.op τ' H))
      rw [← h2]
      cases exOp cf o.op τ H with
      | none => trivial
      | some x =>
        obtain ⟨v, H'⟩ := x
        have e : drawSt n o.bits o.op τ H v H' d = drawSt n o.bits o.op τ' H v H' d := by
          cases ho : o.op with
          | rd q xs =>
            rw [ho] at h4
            show drawRd n o.bits q (evs τ xs) v d = drawRd n o.bits q (evs τ' xs) v d
            rw [h4]
          | _ => rfl
        show OA F N X (drawThen _ n o d τ H (some (v, H'))) (drawThen _ n o d τ' H (some (v, H')))
        unfold drawThen
        simp only [← e]
        split
        · exact exDraw_ag (l := r) (h3 v)
        · trivial

theorem OA.then {N M : List Pos} {o o' : Out} {k : Fm → Hp → Out} (h : OA F N X o o') (hk : ∀ τ τ' H, Ag N τ τ' → OA F M X (k τ H) (k τ' H)) : OA F M X (thenI k o) (thenI k o') := by
  cases o <;> cases o' <;> first | exact h.elim | skip
  · obtain ⟨rfl, h⟩ := h; exact hk _ _ _ h
  · exact h
  · exact h
  · exact h
theorem OA.sub {N M : List Pos} {o o' : Out} (h : OA F N X o o') (s : ∀ p ∈ M, p ∈ N) : OA F M X o o' := by
  cases o <;> cases o' <;> first | exact h | exact ⟨h.1, h.2.sub s⟩

/-- WHAT IS NOT LOOKED AT DOES NOT MATTER. -/
theorem sem_ag {n : Nat} : ∀ (c : LC) {N : List Pos} {X : Nat → List Pos} {τ τ' : Fm} {H : Hp}, lvOk F c N X = true → Ag (lv F c N X) τ τ' → OA F N X (sem n cf c.erase τ H) (sem n cf c.erase τ' H)
  | .skip, N, X, τ, τ', H, _, h => ⟨rfl, h⟩
  | .ops l, N, X, τ, τ', H, _, h => exOps_ag h
  | .draw l, N, X, τ, τ', H, _, h => exDraw_ag h
  | .exit id, N, X, τ, τ', H, _, h => ⟨rfl, rfl, h⟩
  | .ret, N, X, τ, τ', H, _, h => ⟨rfl, h⟩
  | .bad, N, X, τ, τ', H, _, h => trivial
  | .seq a b, N, X, τ, τ', H, ok, h => by
    obtain ⟨o1, o2⟩ := cond_true (show cond (lvOk F b N X) (lvOk F a (lv F b N X) X) false = true from ok)
    exact OA.then (sem_ag a o2 h) fun τ τ' H k => sem_ag b o1 k
  | .join j L a b, N, X, τ, τ', H, ok, h => by
    obtain ⟨o0, o⟩ := cond_true (show cond (subP (lv F b N X) L) (cond (lvOk F b N X) (lvOk F a L X) false) false = true from ok)
    obtain ⟨o1, o2⟩ := cond_true o
    exact OA.then (sem_ag a o2 h) fun τ τ' H k => sem_ag b o1 (k.sub (subP_mem o0))
  | .cond c a b, N, X, τ, τ', H, ok, h => by
    obtain ⟨o1, o2⟩ := cond_true (show cond (lvOk F a N X) (lvOk F b N X) false = true from ok)
    have h : Ag (unionP (odP [c]) (unionP (lv F a N X) (lv F b N X))) τ τ' := h
    have e := h.od (x := c) fun p hp => mem_unionP.2 (.inl hp)
    show OA F N X (condI (sem n cf a.erase τ H) (sem n cf b.erase τ H) (c.ev τ)) (condI (sem n cf a.erase τ' H) (sem n cf b.erase τ' H) (c.ev τ'))
    rw [← e]
    unfold condI
    split
    · exact sem_ag a o1 (h.sub fun p hp => mem_unionP.2 (.inr (mem_unionP.2 (.inl hp))))
    · exact sem_ag b o2 (h.sub fun p hp => mem_unionP.2 (.inr (mem_unionP.2 (.inr hp))))
    · trivial
  | .block id b, N, X, τ, τ', H, ok, h => by
    have k := sem_ag (n := n) b ok (H := H) h
    show OA F N X (blockI id (sem n cf b.erase τ H)) (blockI id (sem n cf b.erase τ' H))
    generalize sem n cf b.erase τ H = o at k ⊢
    generalize sem n cf b.erase τ' H = o' at k ⊢
    cases o <;> cases o' <;> first | exact k.elim | exact k | skip
    · rename_i i τ1 h1 i' τ2 h2
      obtain ⟨rfl, rfl, k⟩ := k
      show OA F N X (cond (Nat.beq i id) (.nrm τ1 h1) (.exit i τ1 h1)) (cond (Nat.beq i id) (.nrm τ2 h1) (.exit i τ2 h1))
      have k : Ag (cond (Nat.beq i id) N (X i)) τ1 τ2 := k
      cases c : Nat.beq i id with
      | true => rw [c] at k; exact ⟨rfl, k⟩
      | false => rw [c] at k; exact ⟨rfl, rfl, k⟩
  | .loop j L b, N, X, τ, τ', H, ok, h => by
    obtain ⟨o0, o1⟩ := cond_true (show cond (subP (lv F b L X) L) (lvOk F b L X) false = true from ok)
    have key : ∀ m τ τ' H, Ag L τ τ' → OA F N X (loopN (sem n cf b.erase) m τ H) (loopN (sem n cf b.erase) m τ' H) := by
      intro m
      induction m with
      | zero => intro τ τ' H _; trivial
      | succ m ih =>
        intro τ τ' H h
        exact OA.then (sem_ag b o1 (h.sub (subP_mem o0))) ih
    exact key n τ τ' H h

theorem semW_ag {c : LC} {N : List Pos} {X : Nat → List Pos} {τ τ' : Fm} {H : Hp} (ok : lvOk F c N X = true) (h : Ag (lv F c N X) τ τ') : OA F N X (semW cf c.erase τ H) (semW cf c.erase τ' H) := by
  by_cases c1 : semW cf c.erase τ H = .fail
  · by_cases c2 : semW cf c.erase τ' H = .fail
    · rw [c1, c2]; trivial
    · obtain ⟨n, hn⟩ := semW_inv rfl c2
      have k := sem_ag (n := n) (cf := cf) c ok (H := H) h
      rw [hn] at k
      have : sem n cf c.erase τ H ≠ .fail := by
        intro e; rw [e] at k
        generalize semW cf c.erase τ' H = o at k c2
        cases o <;> first | exact k.elim | exact c2 rfl
      rw [semW_of rfl this] at c1
      exact absurd c1 this
  · obtain ⟨n, hn⟩ := semW_inv rfl c1
    have k := sem_ag (n := n) (cf := cf) c ok (H := H) h
    rw [hn] at k
    have : sem n cf c.erase τ' H ≠ .fail := by
      intro e; rw [e] at k
      generalize semW cf c.erase τ H = o at k c1
      cases o <;> first | exact k.elim | exact c1 rfl
    rw [semW_of rfl this]
    exact k
end
end Go.Fg
/- Code with names for the places where ways meet: what each place does, as one expression. -/
namespace Go.Fg

abbrev R := Option (IV × Hp)

noncomputable def leaveX (τ : Fm) (h : Hp) : List IRes → (List IV → R) → R
  | [], k => k []
  | .t n :: r, k => leaveX τ h r (fun vs => k (Fm.at τ n :: vs))
  | .cell a n :: r, k => (evLd n h [Fm.at τ a]).bind fun v => leaveX τ h r (fun vs => k (v :: vs))
  | .cell1 a :: r, k => (evLd1 h [Fm.at τ a]).bind fun v => leaveX τ h r (fun vs => k (v :: vs))
noncomputable def leaveR (rs : List IRes) (τ : Fm) (h : Hp) : R := leaveX τ h rs (fun vs => some (oneOf vs, h))
theorem leaveX_eq (τ : Fm) (h : Hp) : ∀ (rs : List IRes) (k : List IV → R), leaveX τ h rs k = (resultsI τ h rs).bind k
  | [], k => rfl
  | .t n :: r, k => by
    show leaveX τ h r _ = (consO (some (Fm.at τ n)) (resultsI τ h r)).bind k
    rw [leaveX_eq]
    cases resultsI τ h r <;> rfl
  | .cell a n :: r, k => by
    show (evLd n h [Fm.at τ a]).bind _ = (consO (evLd n h [Fm.at τ a]) (resultsI τ h r)).bind k
    cases evLd n h [Fm.at τ a] with
    | none => rfl
    | some v =>
      show leaveX τ h r _ = _
      rw [leaveX_eq]
      cases resultsI τ h r <;> rfl
  | .cell1 a :: r, k => by
    show (evLd1 h [Fm.at τ a]).bind _ = (consO (evLd1 h [Fm.at τ a]) (resultsI τ h r)).bind k
    cases evLd1 h [Fm.at τ a] with
    | none => rfl
    | some v =>
      show leaveX τ h r _ = _
      rw [leaveX_eq]
      cases resultsI τ h r <;> rfl
theorem leaveR_eq (rs : List IRes) (τ : Fm) (h : Hp) : leaveR rs τ h = leaveI rs (.nrm τ h) := by
  unfold leaveR
  rw [leaveX_eq]
  show _ = match resultsI τ h rs with | some vs => some (oneOf vs, h) | none => none
  cases resultsI τ h rs <;> rfl

/-- What comes of an outcome, with so much still to be done. -/
noncomputable def runS (cf : CallF) (rs : List IRes) : List LI → Out → R
  | _, .ret τ h => leaveR rs τ h
  | _, .fail => none
  | [], .nrm τ h => leaveR rs τ h
  | [], .exit _ _ _ => none
  | .code c _ :: S, .nrm τ h => runS cf rs S (semW cf c.erase τ h)
  | .code _ _ :: S, .exit k τ h => runS cf rs S (.exit k τ h)
  | .blk _ :: S, .nrm τ h => runS cf rs S (.nrm τ h)
  | .blk id :: S, .exit k τ h => cond (Nat.beq k id) (runS cf rs S (.nrm τ h)) (runS cf rs S (.exit k τ h))
  | .loop _ _ b :: S, .nrm τ h => runS cf rs S (semW cf (.loop b.erase) τ h)
  | .loop _ _ _ :: S, .exit k τ h => runS cf rs S (.exit k τ h)
noncomputable def E (cf : CallF) (rs : List IRes) (c : LC) (S : List LI) (τ : Fm) (h : Hp) : R := runS cf rs S (semW cf c.erase τ h)

def condR (x y : R) : IV → R
  | .b true => x
  | .b false => y
  | _ => none
noncomputable def frameL : List Pos → List IV → Fm
  | p :: L, v :: vs => PT.put (frameL L vs) p (some v)
  | _, _ => .nil

/-! One operation, and what comes behind it. -/
noncomputable def xOp (cf : CallF) (o : Io) (τ : Fm) (h : Hp) (k : IV → Hp → R) : R :=
  match o with
  | .rd r xs => (r.ev (evs τ xs) h).bind fun v => k v h
  | .al a xs => (a.ev (evs τ xs) h.next).bind fun p => k p.2 (h.new p.1)
  | .ef e xs => (e.ev (evs τ xs) h).bind fun p => k p.1 p.2
  | .call f xs => (exCall cf (f.ev τ) (evs τ xs) h).bind fun p => k p.1 p.2
  | .bad => none
noncomputable def xFz (h : Hp) (τ : Fm) (l : List Od) (k : Fm → Hp → R) : R :=
  @List.rec Od (fun _ => Hp → Fm → R) (fun h τ => k τ h)
    (fun x _ ih h τ => @Od.casesOn (fun _ => R) x (fun n => cond (Nat.ble n.num 1000000) ((frz h (Fm.at τ n)).bind fun p => ih p.2 (putd τ (some n) p.1)) none) (fun _ => ih h τ)) l h τ
noncomputable def xOpz (cf : CallF) (o : IOper) (τ : Fm) (h : Hp) (k : IV → Hp → R) : R :=
  cond o.fz (xFz h τ o.op.toFz (fun τ' h' => xOp cf o.op τ' h' k)) (xOp cf o.op τ h k)
noncomputable def xG (cf : CallF) (g : Bool) (o : Io) (τ : Fm) (h : Hp) (k : IV → Hp → R) : R :=
  match o with
  | .rd r xs => (cond g (r.ev (evs τ xs) h) (some undefd)).bind fun v => k v h
  | .al a xs => (cond g (exAl a (evs τ xs) h) (some (undefd, h))).bind fun p => k p.1 p.2
  | .ef e xs => (cond g (e.ev (evs τ xs) h) (some (undefd, h))).bind fun p => k p.1 p.2
  | .call f xs => (cond g (exCall cf (f.ev τ) (evs τ xs) h) (some (undefd, h))).bind fun p => k p.1 p.2
  | .bad => cond g none (k undefd h)
noncomputable def xGz (cf : CallF) (g : Bool) (o : IOper) (τ : Fm) (h : Hp) (k : IV → Hp → R) : R :=
  cond o.fz ((cond g (exOpz cf o τ h) (some (undefd, h))).bind fun p => k p.1 p.2) (xG cf g o.op τ h k)
noncomputable def xOps (cf : CallF) (k : Fm → Hp → R) (l : List IOper) : Fm → Hp → R :=
  @List.rec IOper (fun _ => Fm → Hp → R) k
    (fun o _ ih τ h => match o.guard with
      | none => xOpz cf o τ h (fun v h' => ih (putd τ o.dst v) h')
      | some (t, w) => xGz cf (wantV w (Fm.at τ t)) o τ h (fun v h' => ih (putd τ o.dst v) h')) l
/-- Is what is seen at a place asked for behind it? -/
def needs (n : Nat) : List IOper → Bool
  | [] => false
  | o :: r => cond (Nat.testBit o.bits n) (needs n r) true
noncomputable def xD (cf : CallF) (nd : Bool) (o : IOper) (n : Nat) (looks : List Seen) (old : List (Nat × Hp)) (τ : Fm) (h : Hp) (k : List Seen → List (Nat × Hp) → IV → Hp → R) : R :=
  match o.op with
  | .rd q xs => (q.ev (evs τ xs) h).bind fun v => cond (isR q) (cond (seenBefore o.bits q (evs τ xs) v old) (k (cond nd (⟨n, q, evs τ xs, v⟩ :: looks) looks) old v h) none) (k looks old v h)
  | .al a xs => (a.ev (evs τ xs) h.next).bind fun p => k looks old p.2 (h.new p.1)
  | .ef e xs => (e.ev (evs τ xs) h).bind fun p => cond (seenAgain o.bits p.2 looks) (k looks (cond nd ((n, h) :: old) old) p.1 p.2) none
  | .call f xs => (exCall cf (f.ev τ) (evs τ xs) h).bind fun p => cond (seenAgain o.bits p.2 looks) (k looks (cond nd ((n, h) :: old) old) p.1 p.2) none
  | .bad => none
def consIf {α : Type} (g : Bool) (x : α) (l : List α) : List α := cond g (x :: l) l
/-- A guarded operation. -/
noncomputable def xE (cf : CallF) (nd g : Bool) (o : IOper) (n : Nat) (looks : List Seen) (old : List (Nat × Hp)) (τ : Fm) (h : Hp) (k : List Seen → List (Nat × Hp) → IV → Hp → R) : R := match o.op with
  | .rd q xs => (cond g ((q.ev (evs τ xs) h).bind fun v => cond (isR q) (cond (seenBefore o.bits q (evs τ xs) v old) (some v) none) (some v)) (some undefd)).bind fun v => k (cond (isR q) (cond nd (consIf g ⟨n, q, evs τ xs, v⟩ looks) looks) looks) old v h
  | .al a xs => (cond g (exAl a (evs τ xs) h) (some (undefd, h))).bind fun p => k looks old p.1 p.2
  | .ef e xs => (cond g ((e.ev (evs τ xs) h).bind fun p => cond (seenAgain o.bits p.2 looks) (some p) none) (some (undefd, h))).bind fun p => k looks (cond nd (consIf g (n, h) old) old) p.1 p.2
  | .call f xs => (cond g ((exCall cf (f.ev τ) (evs τ xs) h).bind fun p => cond (seenAgain o.bits p.2 looks) (some p) none) (some (undefd, h))).bind fun p => k looks (cond nd (consIf g (n, h) old) old) p.1 p.2
  | .bad => cond g none (k looks old undefd h)
noncomputable def xDraw (cf : CallF) (k : Fm → Hp → R) (l : List IOper) : Nat → List Seen → List (Nat × Hp) → Fm → Hp → R :=
  @List.rec IOper (fun _ => Nat → List Seen → List (Nat × Hp) → Fm → Hp → R) (fun _ _ _ τ h => k τ h)
    (fun o r ih n looks old τ h => match o.guard with
      | none => xD cf (needs n r) o n looks old τ h (fun looks old v h' => ih (n + 1) looks old (putd τ o.dst v) h')
      | some (t, w) => xE cf (needs n r) (wantV w (Fm.at τ t)) o n looks old τ h (fun looks old v h' => ih (n + 1) looks old (putd τ o.dst v) h')) l

abbrev JF := Nat → List IV → Hp → R
noncomputable def popX (rs : List IRes) (J : JF) (x : LC → List LI → Fm → Hp → R) : List LI → Fm → Hp → R
  | [], τ, h => leaveR rs τ h
  | .code b none :: S, τ, h => x b S τ h
  | .code _ (some (j, L)) :: _, τ, h => J j (L.map (Fm.at τ)) h
  | .blk _ :: S, τ, h => popX rs J x S τ h
  | .loop j L _ :: _, τ, h => J j (L.map (Fm.at τ)) h
noncomputable def popE (rs : List IRes) (J : JF) (x : LC → List LI → Fm → Hp → R) (id : Nat) : List LI → Fm → Hp → R
  | [], _, _ => none
  | .blk k :: S, τ, h => cond (Nat.beq id k) (popX rs J x S τ h) (popE rs J x id S τ h)
  | .code _ _ :: S, τ, h => popE rs J x id S τ h
  | .loop _ _ _ :: S, τ, h => popE rs J x id S τ h
noncomputable def stepX (cf : CallF) (rs : List IRes) (J : JF) (x : LC → List LI → Fm → Hp → R) (c : LC) (S : List LI) (τ : Fm) (h : Hp) : R :=
  match c with
  | .skip => popX rs J x S τ h
  | .ops l => xOps cf (popX rs J x S) l τ h
  | .draw l => xDraw cf (popX rs J x S) l 0 [] [] τ h
  | .seq a b => x a (.code b none :: S) τ h
  | .join j L a b => x a (.code b (some (j, L)) :: S) τ h
  | .cond o a b => condR (x a S τ h) (x b S τ h) (o.ev τ)
  | .block id b => x b (.blk id :: S) τ h
  | .loop j L _ => J j (L.map (Fm.at τ)) h
  | .exit id => popE rs J x id S τ h
  | .ret => leaveR rs τ h
  | .bad => none
noncomputable def X (cf : CallF) (rs : List IRes) (J : JF) (n : Nat) : LC → List LI → Fm → Hp → R :=
  @Nat.rec (fun _ => LC → List LI → Fm → Hp → R) (fun c S τ h => E cf rs c S τ h) (fun _ x c S τ h => stepX cf rs J x c S τ h) n

/-- What the place with label j does: its temporaries' values, memory. -/
noncomputable def J (cf : CallF) (f : LFn) : JF := fun j vs h => match findPt j (pts f.code []) with
  | some p => E cf f.res p.c p.S (frameL p.L vs) h
  | none => none
/-- What a place does, one round on if it is a loop. -/
noncomputable def XP (cf : CallF) (f : LFn) (p : Pt) (τ : Fm) (h : Hp) : R := match p.c with
  | .loop j L b => X cf f.res (J cf f) 100000 b (.loop j L b :: p.S) τ h
  | c => X cf f.res (J cf f) 100000 c p.S τ h
noncomputable def XJ (cf : CallF) (f : LFn) (j : Nat) (vs : List IV) (h : Hp) : R := match findPt j (pts f.code []) with
  | some p => XP cf f p (frameL p.L vs) h
  | none => none
noncomputable def X0 (cf : CallF) (f : LFn) (args : List IV) (h : Hp) : R := X cf f.res (J cf f) 100000 f.code [] (frameOf args .h .nil) h

section
variable {cf : CallF} {rs : List IRes}

theorem xOp_eq (o : Io) (τ : Fm) (h : Hp) (k : IV → Hp → R) : xOp cf o τ h k = (exOp cf o τ h).bind fun p => k p.1 p.2 := by
  cases o with
  | rd r xs =>
    show (r.ev (evs τ xs) h).bind _ = (exRd r (evs τ xs) h).bind _
    unfold exRd
    cases r.ev (evs τ xs) h <;> rfl
  | al a xs =>
    show (a.ev (evs τ xs) h.next).bind _ = (exAl a (evs τ xs) h).bind _
    unfold exAl
    cases a.ev (evs τ xs) h.next <;> rfl
  | ef e xs => rfl
  | call f xs => rfl
  | bad => rfl
theorem xFz_eq : ∀ (l : List Od) (h : Hp) (τ : Fm) (k : Fm → Hp → R), xFz h τ l k = (frzOds h τ l).bind fun p => k p.1 p.2
  | [], h, τ, k => rfl
  | .c _ :: r, h, τ, k => xFz_eq r h τ k
  | .t n :: r, h, τ, k => by
    show cond (Nat.ble n.num 1000000) ((frz h (Fm.at τ n)).bind fun p => xFz p.2 (putd τ (some n) p.1) r k) none = _
    unfold frzOds
    cases Nat.ble n.num 1000000 with
    | false => rfl
    | true =>
      show (frz h (Fm.at τ n)).bind _ = _
      cases q : frz h (Fm.at τ n) with
      | none => show none = Option.bind (cond true _ none) _; simp [q]
      | some x =>
        show xFz x.2 (putd τ (some n) x.1) r k = Option.bind (cond true _ none) _
        rw [xFz_eq]
        obtain ⟨u, h'⟩ := x
        simp
theorem xOpz_eq (o : IOper) (τ : Fm) (h : Hp) (k : IV → Hp → R) : xOpz cf o τ h k = (exOpz cf o τ h).bind fun p => k p.1 p.2 := by
  unfold xOpz exOpz
  cases o.fz with
  | false => exact xOp_eq _ _ _ _
  | true =>
    show xFz h τ o.op.toFz _ = (exFz cf o.op τ h).bind _
    rw [xFz_eq]
    unfold exFz
    cases frzOds h τ o.op.toFz with
    | none => rfl
    | some x => exact xOp_eq _ _ _ _
theorem xGz_eq (g : Bool) (o : IOper) (τ : Fm) (h : Hp) (k : IV → Hp → R) : xGz cf g o τ h k = (cond g (exOpz cf o τ h) (some (undefd, h))).bind fun p => k p.1 p.2 := by
  unfold xGz
  cases hz : o.fz with
  | true => rfl
  | false =>
    show xG cf g o.op τ h k = _
    have e : exOpz cf o τ h = exOp cf o.op τ h := by unfold exOpz; rw [hz]; rfl
    rw [e]
    cases g with
    | false => cases o.op <;> rfl
    | true =>
      have := xOp_eq (cf := cf) o.op τ h k
      show _ = (exOp cf o.op τ h).bind _
      rw [← this]
      cases o.op with
      | al a xs =>
        show (exAl a (evs τ xs) h).bind _ = (a.ev (evs τ xs) h.next).bind _
        unfold exAl
        cases a.ev (evs τ xs) h.next <;> rfl
      | _ => rfl
theorem runS_fail (S : List LI) : runS cf rs S .fail = none := by cases S <;> unfold runS <;> rfl
theorem runS_ret (S : List LI) (τ : Fm) (h : Hp) : runS cf rs S (.ret τ h) = leaveR rs τ h := by cases S <;> unfold runS <;> rfl
theorem xOps_eq (S : List LI) : ∀ (l : List IOper) (τ : Fm) (h : Hp), xOps cf (fun τ h => runS cf rs S (.nrm τ h)) l τ h = runS cf rs S (exOps cf l τ h)
  | [], τ, h => rfl
  | o :: r, τ, h => by
    have ih := xOps_eq S r
    show (match o.guard with
      | none => xOpz cf o τ h (fun v h' => xOps cf (fun τ h => runS cf rs S (.nrm τ h)) r (putd τ o.dst v) h')
      | some (t, w) => xGz cf (wantV w (Fm.at τ t)) o τ h (fun v h' => xOps cf (fun τ h => runS cf rs S (.nrm τ h)) r (putd τ o.dst v) h')) = _
    unfold exOps
    cases hg : o.guard with
    | none =>
      show xOpz cf o τ h _ = runS cf rs S (opThen (exOps cf r) τ o.dst (exOpz cf o τ h))
      rw [xOpz_eq]
      cases exOpz cf o τ h with
      | none => exact (runS_fail S).symm
      | some x => exact ih _ _
    | some g =>
      obtain ⟨t, w⟩ := g
      show xGz cf (wantV w (Fm.at τ t)) o τ h _ = runS cf rs S (cond (wantV w (Fm.at τ t)) (opThen (exOps cf r) τ o.dst (exOpz cf o τ h)) (exOps cf r (putd τ o.dst undefd) h))
      rw [xGz_eq]
      cases wantV w (Fm.at τ t) with
      | false => exact ih _ _
      | true =>
        show (exOpz cf o τ h).bind _ = runS cf rs S (opThen (exOps cf r) τ o.dst (exOpz cf o τ h))
        cases exOpz cf o τ h with
        | none => exact (runS_fail S).symm
        | some x => exact ih _ _
theorem again_drop {bits : Nat} {h : Hp} {x : Seen} (hx : Nat.testBit bits x.place = true) (b : List Seen) : ∀ a, seenAgain bits h (a ++ x :: b) = seenAgain bits h (a ++ b)
  | [] => by
    show cond (cond (Nat.testBit bits x.place) true _) (seenAgain bits h b) false = _
    rw [hx]; rfl
  | y :: a => by
    show cond _ (seenAgain bits h (a ++ x :: b)) false = cond _ (seenAgain bits h (a ++ b)) false
    rw [again_drop hx b a]
theorem before_drop {bits : Nat} {r : Rd} {xs : List IV} {v : IV} {x : Nat × Hp} (hx : Nat.testBit bits x.1 = true) (b : List (Nat × Hp)) : ∀ a, seenBefore bits r xs v (a ++ x :: b) = seenBefore bits r xs v (a ++ b)
  | [] => by
    show cond (cond (Nat.testBit bits x.1) true _) (seenBefore bits r xs v b) false = _
    rw [hx]; rfl
  | y :: a => by
    show cond _ (seenBefore bits r xs v (a ++ x :: b)) false = cond _ (seenBefore bits r xs v (a ++ b)) false
    rw [before_drop hx b a]
theorem drop_looks (cf : CallF) (x : Seen) (b : List Seen) : ∀ (l : List IOper) (n : Nat) (a : List Seen) (old : List (Nat × Hp)) (τ : Fm) (h : Hp), needs x.place l = false → exDraw cf l n ⟨a ++ x :: b, old⟩ τ h = exDraw cf l n ⟨a ++ b, old⟩ τ h
  | [], _, _, _, _, _, _ => rfl
  | o :: r, n, a, old, τ, h, hn => by
    have hn : cond (Nat.testBit o.bits x.place) (needs x.place r) true = false := hn
    cases ht : Nat.testBit o.bits x.place with
    | false => rw [ht] at hn; cases hn
    | true =>
      rw [ht] at hn
      have hn : needs x.place r = false := hn
      have ih := drop_looks cf x b r
      have ih0 := fun n old τ h (y : Seen) => drop_looks cf x b r n (y :: a) old τ h hn
      rw [exDraw_cons, exDraw_cons]
      cases wantedI o.guard τ with
      | false => exact ih _ _ _ _ _ hn
      | true =>
        show drawThen (exDraw cf r (n + 1)) n o ⟨a ++ x :: b, old⟩ τ h (exOp cf o.op τ h) = drawThen (exDraw cf r (n + 1)) n o ⟨a ++ b, old⟩ τ h (exOp cf o.op τ h)
        cases exOp cf o.op τ h with
        | none => rfl
        | some y =>
          obtain ⟨v, h'⟩ := y
          unfold drawThen
          simp only []
          cases ho : o.op with
          | rd q xs =>
            simp only [drawSt, drawRd]
            cases isR q with
            | false => exact ih _ _ _ _ _ hn
            | true =>
              cases seenBefore o.bits q (evs τ xs) v old with
              | false => rfl
              | true => exact ih0 _ _ _ _ _
          | al al xs => exact ih _ _ _ _ _ hn
          | ef e xs =>
            simp only [drawSt, again_drop ht]
            cases seenAgain o.bits h' (a ++ b) with
            | false => rfl
            | true => exact ih _ _ _ _ _ hn
          | call f xs =>
            simp only [drawSt, again_drop ht]
            cases seenAgain o.bits h' (a ++ b) with
            | false => rfl
            | true => exact ih _ _ _ _ _ hn
          | bad =>
            simp only [drawSt, again_drop ht]
            cases seenAgain o.bits h' (a ++ b) with
            | false => rfl
            | true => exact ih _ _ _ _ _ hn
theorem drop_old (cf : CallF) (x : Nat × Hp) (b : List (Nat × Hp)) : ∀ (l : List IOper) (n : Nat) (looks : List Seen) (a : List (Nat × Hp)) (τ : Fm) (h : Hp), needs x.1 l = false → exDraw cf l n ⟨looks, a ++ x :: b⟩ τ h = exDraw cf l n ⟨looks, a ++ b⟩ τ h
  | [], _, _, _, _, _, _ => rfl
  | o :: r, n, looks, a, τ, h, hn => by
    have hn : cond (Nat.testBit o.bits x.1) (needs x.1 r) true = false := hn
    cases ht : Nat.testBit o.bits x.1 with
    | false => rw [ht] at hn; cases hn
    | true =>
      rw [ht] at hn
      have hn : needs x.1 r = false := hn
      have ih := drop_old cf x b r
      have ih0 := fun n looks τ h (y : Nat × Hp) => drop_old cf x b r n looks (y :: a) τ h hn
      rw [exDraw_cons, exDraw_cons]
      cases wantedI o.guard τ with
      | false => exact ih _ _ _ _ _ hn
      | true =>
        show drawThen (exDraw cf r (n + 1)) n o ⟨looks, a ++ x :: b⟩ τ h (exOp cf o.op τ h) = drawThen (exDraw cf r (n + 1)) n o ⟨looks, a ++ b⟩ τ h (exOp cf o.op τ h)
        cases exOp cf o.op τ h with
        | none => rfl
        | some y =>
          obtain ⟨v, h'⟩ := y
          unfold drawThen
          simp only []
          cases ho : o.op with
          | rd q xs =>
            simp only [drawSt, drawRd, before_drop ht]
            cases isR q with
            | false => exact ih _ _ _ _ _ hn
            | true =>
              cases seenBefore o.bits q (evs τ xs) v (a ++ b) with
              | false => rfl
              | true => exact ih _ _ _ _ _ hn
          | al al xs => exact ih _ _ _ _ _ hn
          | ef e xs =>
            simp only [drawSt]
            cases seenAgain o.bits h' looks with
            | false => rfl
            | true => exact ih0 _ _ _ _ _
          | call f xs =>
            simp only [drawSt]
            cases seenAgain o.bits h' looks with
            | false => rfl
            | true => exact ih0 _ _ _ _ _
          | bad =>
            simp only [drawSt]
            cases seenAgain o.bits h' looks with
            | false => rfl
            | true => exact ih0 _ _ _ _ _
theorem cond_looks (cf : CallF) {r : List IOper} {x : Seen} (b : List Seen) (m : Nat) (old : List (Nat × Hp)) (τ : Fm) (h : Hp) : exDraw cf r m ⟨cond (needs x.place r) (x :: b) b, old⟩ τ h = exDraw cf r m ⟨x :: b, old⟩ τ h := by
  cases c : needs x.place r with
  | true => rfl
  | false => exact (drop_looks cf x b r m [] old τ h c).symm
theorem cond_old (cf : CallF) {r : List IOper} {x : Nat × Hp} (b : List (Nat × Hp)) (m : Nat) (looks : List Seen) (τ : Fm) (h : Hp) : exDraw cf r m ⟨looks, cond (needs x.1 r) (x :: b) b⟩ τ h = exDraw cf r m ⟨looks, x :: b⟩ τ h := by
  cases c : needs x.1 r with
  | true => rfl
  | false => exact (drop_old cf x b r m looks [] τ h c).symm
theorem xDraw_eq (S : List LI) : ∀ (l : List IOper) (n : Nat) (looks : List Seen) (old : List (Nat × Hp)) (τ : Fm) (h : Hp), xDraw cf (fun τ h => runS cf rs S (.nrm τ h)) l n looks old τ h = runS cf rs S (exDraw cf l n ⟨looks, old⟩ τ h)
  | [], _, _, _, τ, h => rfl
  | o :: r, n, looks, old, τ, h => by
    have ih := xDraw_eq S r
    have key : xD cf (needs n r) o n looks old τ h (fun looks old v h' => xDraw cf (fun τ h => runS cf rs S (.nrm τ h)) r (n + 1) looks old (putd τ o.dst v) h') = runS cf rs S (drawThen (exDraw cf r (n + 1)) n o ⟨looks, old⟩ τ h (exOp cf o.op τ h)) := by
      unfold xD
      simp only [ih]
      cases ho : o.op with
      | rd q xs =>
        show (q.ev (evs τ xs) h).bind _ = runS cf rs S (drawThen (exDraw cf r (n + 1)) n o ⟨looks, old⟩ τ h (exRd q (evs τ xs) h))
        unfold exRd
        cases q.ev (evs τ xs) h with
        | none => exact (runS_fail S).symm
        | some v =>
          show cond (isR q) (cond (seenBefore o.bits q (evs τ xs) v old) _ none) _ = runS cf rs S (drawThen (exDraw cf r (n + 1)) n o ⟨looks, old⟩ τ h (some (v, h)))
          unfold drawThen
          simp only [ho]
          unfold drawSt
          simp only []
          unfold drawRd
          cases isR q with
          | false => rfl
          | true =>
            cases seenBefore o.bits q (evs τ xs) v old with
            | false => exact (runS_fail S).symm
            | true => exact congrArg (runS cf rs S) (cond_looks cf (x := ⟨n, q, evs τ xs, v⟩) looks (n + 1) old _ h)
      | al a xs =>
        show (a.ev (evs τ xs) h.next).bind _ = runS cf rs S (drawThen (exDraw cf r (n + 1)) n o ⟨looks, old⟩ τ h (exAl a (evs τ xs) h))
        unfold exAl
        cases a.ev (evs τ xs) h.next with
        | none => exact (runS_fail S).symm
        | some p =>
          obtain ⟨b, v⟩ := p
          simp only [Option.bind_some]
          unfold drawThen
          simp only [ho, drawSt]
      | ef e xs =>
        show (e.ev (evs τ xs) h).bind _ = runS cf rs S (drawThen (exDraw cf r (n + 1)) n o ⟨looks, old⟩ τ h (e.ev (evs τ xs) h))
        cases e.ev (evs τ xs) h with
        | none => exact (runS_fail S).symm
        | some p =>
          obtain ⟨v, h'⟩ := p
          simp only [Option.bind_some]
          unfold drawThen
          simp only [ho, drawSt]
          cases seenAgain o.bits h' looks with
          | false => exact (runS_fail S).symm
          | true => exact congrArg (runS cf rs S) (cond_old cf (x := (n, h)) old (n + 1) looks _ h')
      | call f xs =>
        show (exCall cf (f.ev τ) (evs τ xs) h).bind _ = runS cf rs S (drawThen (exDraw cf r (n + 1)) n o ⟨looks, old⟩ τ h (exCall cf (f.ev τ) (evs τ xs) h))
        cases exCall cf (f.ev τ) (evs τ xs) h with
        | none => exact (runS_fail S).symm
        | some p =>
          obtain ⟨v, h'⟩ := p
          simp only [Option.bind_some]
          unfold drawThen
          simp only [ho, drawSt]
          cases seenAgain o.bits h' looks with
          | false => exact (runS_fail S).symm
          | true => exact congrArg (runS cf rs S) (cond_old cf (x := (n, h)) old (n + 1) looks _ h')
      | bad => exact (runS_fail S).symm
    rw [exDraw_cons]
    show (match o.guard with
      | none => xD cf (needs n r) o n looks old τ h (fun looks old v h' => xDraw cf (fun τ h => runS cf rs S (.nrm τ h)) r (n + 1) looks old (putd τ o.dst v) h')
      | some (t, w) => xE cf (needs n r) (wantV w (Fm.at τ t)) o n looks old τ h (fun looks old v h' => xDraw cf (fun τ h => runS cf rs S (.nrm τ h)) r (n + 1) looks old (putd τ o.dst v) h')) = _
    cases hg : o.guard with
    | none => exact key
    | some g =>
      obtain ⟨t, w⟩ := g
      show xE cf _ _ o n looks old τ h _ = runS cf rs S (cond (wantV w (Fm.at τ t)) (drawThen (exDraw cf r (n + 1)) n o ⟨looks, old⟩ τ h (exOp cf o.op τ h)) (exDraw cf r (n + 1) ⟨looks, old⟩ (putd τ o.dst undefd) h))
      have push : ∀ (g : Bool) (x y : Out), runS cf rs S (cond g x y) = cond g (runS cf rs S x) (runS cf rs S y) := fun g x y => by cases g <;> rfl
      rw [push, ← key]
      unfold xE xD
      simp only [ih]
      cases ho : o.op with
      | rd q xs =>
        simp only []
        cases wantV w (Fm.at τ t) with
        | false => cases isR q <;> cases needs n r <;> rfl
        | true =>
          show ((q.ev (evs τ xs) h).bind _).bind _ = (q.ev (evs τ xs) h).bind _
          cases q.ev (evs τ xs) h with
          | none => rfl
          | some v =>
            simp only [Option.bind_some]
            cases isR q with
            | false => rfl
            | true => cases needs n r <;> cases seenBefore o.bits q (evs τ xs) v old <;> rfl
      | al a xs =>
        simp only []
        cases wantV w (Fm.at τ t) with
        | false => rfl
        | true =>
          show (exAl a (evs τ xs) h).bind _ = (a.ev (evs τ xs) h.next).bind _
          unfold exAl
          cases a.ev (evs τ xs) h.next <;> rfl
      | ef e xs =>
        simp only []
        cases wantV w (Fm.at τ t) with
        | false => cases needs n r <;> rfl
        | true =>
          show ((e.ev (evs τ xs) h).bind _).bind _ = (e.ev (evs τ xs) h).bind _
          cases e.ev (evs τ xs) h with
          | none => rfl
          | some p =>
            simp only [Option.bind_some]
            cases needs n r <;> cases seenAgain o.bits p.2 looks <;> rfl
      | call f xs =>
        simp only []
        cases wantV w (Fm.at τ t) with
        | false => cases needs n r <;> rfl
        | true =>
          show ((exCall cf (f.ev τ) (evs τ xs) h).bind _).bind _ = (exCall cf (f.ev τ) (evs τ xs) h).bind _
          cases exCall cf (f.ev τ) (evs τ xs) h with
          | none => rfl
          | some p =>
            simp only [Option.bind_some]
            cases needs n r <;> cases seenAgain o.bits p.2 looks <;> rfl
      | bad => cases wantV w (Fm.at τ t) <;> rfl

/-! What is looked at behind. -/
noncomputable def XS (F : List Pos) : List LI → (List Pos) × (Nat → List Pos)
  | [] => (F, fun _ => [])
  | .code b none :: S => (lv F b (XS F S).1 (XS F S).2, (XS F S).2)
  | .code _ (some (_, L)) :: S => (L, (XS F S).2)
  | .blk id :: S => ((XS F S).1, fun k => cond (Nat.beq k id) (XS F S).1 ((XS F S).2 k))
  | .loop _ L _ :: S => (L, (XS F S).2)
def okS (PL : List Pt) (F : List Pos) : List LI → Prop
  | [] => True
  | .code b lab :: S => lvOk F b (XS F S).1 (XS F S).2 = true ∧ (∀ p ∈ pts b S, p ∈ PL) ∧ (∀ j L, lab = some (j, L) → ⟨j, L, b, S⟩ ∈ PL ∧ ∀ q ∈ lv F b (XS F S).1 (XS F S).2, q ∈ L) ∧ okS PL F S
  | .blk _ :: S => okS PL F S
  | .loop j L b :: S => ⟨j, L, .loop j L b, S⟩ ∈ PL ∧ lvOk F (.loop j L b) (XS F S).1 (XS F S).2 = true ∧ okS PL F S

theorem leave_ag {τ τ' : Fm} {h : Hp} : ∀ {rs : List IRes} {k : List IV → R}, Ag (resP rs) τ τ' → leaveX τ h rs k = leaveX τ' h rs k
  | [], k, _ => rfl
  | .t n :: r, k, hA => by
    show leaveX τ h r _ = leaveX τ' h r _
    rw [hA n (by simp [resP]), leave_ag (hA.sub fun p hp => by simp [resP, hp])]
  | .cell a n :: r, k, hA => by
    show (evLd n h [Fm.at τ a]).bind _ = (evLd n h [Fm.at τ' a]).bind _
    rw [hA a (by simp [resP])]
    congr 1; funext v
    exact leave_ag (hA.sub fun p hp => by simp [resP, hp])
  | .cell1 a :: r, k, hA => by
    show (evLd1 h [Fm.at τ a]).bind _ = (evLd1 h [Fm.at τ' a]).bind _
    rw [hA a (by simp [resP])]
    congr 1; funext v
    exact leave_ag (hA.sub fun p hp => by simp [resP, hp])
theorem runS_ag {PL : List Pt} : ∀ {S : List LI} {o o' : Out}, okS PL (resP rs) S → OA (resP rs) (XS (resP rs) S).1 (XS (resP rs) S).2 o o' → runS cf rs S o = runS cf rs S o'
  | S, .ret τ h, .ret τ' h', _, k => by
    obtain ⟨rfl, k⟩ := k
    rw [runS_ret, runS_ret]; exact leave_ag k
  | S, .fail, .fail, _, _ => rfl
  | [], .nrm τ h, .nrm τ' h', _, k => by
    obtain ⟨rfl, k⟩ := k
    show leaveR rs τ h = leaveR rs τ' h
    exact leave_ag k
  | [], .exit _ _ _, .exit _ _ _, _, k => rfl
  | .code c none :: S, .nrm τ h, .nrm τ' h', ok, k => by
    obtain ⟨rfl, k⟩ := k
    exact runS_ag (S := S) (o := semW cf c.erase τ h) (o' := semW cf c.erase τ' h) ok.2.2.2 (semW_ag ok.1 k)
  | .code c (some (j, L)) :: S, .nrm τ h, .nrm τ' h', ok, k => by
    obtain ⟨rfl, k⟩ := k
    exact runS_ag (S := S) (o := semW cf c.erase τ h) (o' := semW cf c.erase τ' h) ok.2.2.2 (semW_ag ok.1 (k.sub (ok.2.2.1 j L rfl).2))
  | .code c none :: S, .exit i τ h, .exit i' τ' h', ok, k => by
    obtain ⟨rfl, rfl, k⟩ := k
    exact runS_ag (S := S) (o := .exit i τ h) (o' := .exit i τ' h) ok.2.2.2 ⟨rfl, rfl, k⟩
  | .code c (some (j, L)) :: S, .exit i τ h, .exit i' τ' h', ok, k => by
    obtain ⟨rfl, rfl, k⟩ := k
    exact runS_ag (S := S) (o := .exit i τ h) (o' := .exit i τ' h) ok.2.2.2 ⟨rfl, rfl, k⟩
  | .blk id :: S, .nrm τ h, .nrm τ' h', ok, k => by
    obtain ⟨rfl, k⟩ := k
    exact runS_ag (S := S) (o := .nrm τ h) (o' := .nrm τ' h) ok ⟨rfl, k⟩
  | .blk id :: S, .exit i τ h, .exit i' τ' h', ok, k => by
    obtain ⟨rfl, rfl, k⟩ := k
    have k : Ag (cond (Nat.beq i id) (XS (resP rs) S).1 ((XS (resP rs) S).2 i)) τ τ' := k
    show cond (Nat.beq i id) (runS cf rs S (.nrm τ h)) (runS cf rs S (.exit i τ h)) = cond (Nat.beq i id) (runS cf rs S (.nrm τ' h)) (runS cf rs S (.exit i τ' h))
    cases c : Nat.beq i id with
    | true => rw [c] at k; exact runS_ag (S := S) (o := .nrm τ h) (o' := .nrm τ' h) ok ⟨rfl, k⟩
    | false => rw [c] at k; exact runS_ag (S := S) (o := .exit i τ h) (o' := .exit i τ' h) ok ⟨rfl, rfl, k⟩
  | .loop j L b :: S, .nrm τ h, .nrm τ' h', ok, k => by
    obtain ⟨rfl, k⟩ := k
    exact runS_ag (S := S) (o := semW cf (LC.loop j L b).erase τ h) (o' := semW cf (LC.loop j L b).erase τ' h) ok.2.2 (semW_ag (c := .loop j L b) ok.2.1 k)
  | .loop j L b :: S, .exit i τ h, .exit i' τ' h', ok, k => by
    obtain ⟨rfl, rfl, k⟩ := k
    exact runS_ag (S := S) (o := .exit i τ h) (o' := .exit i τ' h) ok.2.2 ⟨rfl, rfl, k⟩

theorem frameL_at {τ : Fm} : ∀ {L : List Pos}, Ag L τ (frameL L (L.map (Fm.at τ)))
  | [] => fun p hp => by cases hp
  | q :: L => fun p hp => by
    show Fm.at τ p = Fm.at (PT.put (frameL L (L.map (Fm.at τ))) q (some (Fm.at τ q))) p
    by_cases e : p = q
    · subst e
      unfold Fm.at
      rw [PT.get_put_eq]; rfl
    · have : Fm.at (PT.put (frameL L (L.map (Fm.at τ))) q (some (Fm.at τ q))) p = Fm.at (frameL L (L.map (Fm.at τ))) p := by
        unfold Fm.at
        rw [PT.get_put_ne _ _ _ _ e]
      rw [this]
      rcases List.mem_cons.1 hp with h | h
      · exact absurd h e
      · exact frameL_at (L := L) p h

theorem E_seq (a b : LC) (lab : Option (Nat × List Pos)) (S : List LI) (τ : Fm) (h : Hp) : runS cf rs S (semW cf (.seq a.erase b.erase) τ h) = E cf rs a (.code b lab :: S) τ h := by
  rw [semW_seq]
  unfold E
  cases semW cf a.erase τ h with
  | nrm τ1 h1 => cases lab <;> rfl
  | ret τ1 h1 => show runS cf rs S (.ret τ1 h1) = _; rw [runS_ret, runS_ret]
  | exit k τ1 h1 => cases lab <;> rfl
  | fail => show runS cf rs S .fail = _; rw [runS_fail, runS_fail]
theorem E_loop (j : Nat) (L : List Pos) (b : LC) (S : List LI) (τ : Fm) (h : Hp) : E cf rs (.loop j L b) S τ h = E cf rs b (.loop j L b :: S) τ h := by
  unfold E
  show runS cf rs S (semW cf (.loop b.erase) τ h) = _
  rw [semW_loop]
  cases semW cf b.erase τ h with
  | nrm τ1 h1 => rfl
  | ret τ1 h1 => show runS cf rs S (.ret τ1 h1) = _; rw [runS_ret, runS_ret]
  | exit k τ1 h1 => rfl
  | fail => show runS cf rs S .fail = _; rw [runS_fail, runS_fail]

variable {PL : List Pt} {J : JF} (hJ : ∀ p ∈ PL, ∀ τ h, J p.j (p.L.map (Fm.at τ)) h = E cf rs p.c p.S τ h)
theorem popX_eq (hJ : ∀ p ∈ PL, ∀ τ h, J p.j (p.L.map (Fm.at τ)) h = E cf rs p.c p.S τ h) {x : LC → List LI → Fm → Hp → R} (hx : ∀ c S τ h, okS PL (resP rs) S → lvOk (resP rs) c (XS (resP rs) S).1 (XS (resP rs) S).2 = true → (∀ p ∈ pts c S, p ∈ PL) → x c S τ h = E cf rs c S τ h) :
    ∀ (S : List LI) (τ : Fm) (h : Hp), okS PL (resP rs) S → popX rs J x S τ h = runS cf rs S (.nrm τ h)
  | [], τ, h, _ => rfl
  | .code b none :: S, τ, h, ok => hx b S τ h ok.2.2.2 ok.1 ok.2.1
  | .code b (some (j, L)) :: S, τ, h, ok => hJ _ (ok.2.2.1 j L rfl).1 τ h
  | .blk _ :: S, τ, h, ok => popX_eq hJ hx S τ h ok
  | .loop j L b :: S, τ, h, ok => hJ _ ok.1 τ h
theorem popE_eq (hJ : ∀ p ∈ PL, ∀ τ h, J p.j (p.L.map (Fm.at τ)) h = E cf rs p.c p.S τ h) {x : LC → List LI → Fm → Hp → R} (hx : ∀ c S τ h, okS PL (resP rs) S → lvOk (resP rs) c (XS (resP rs) S).1 (XS (resP rs) S).2 = true → (∀ p ∈ pts c S, p ∈ PL) → x c S τ h = E cf rs c S τ h) (id : Nat) :
    ∀ (S : List LI) (τ : Fm) (h : Hp), okS PL (resP rs) S → popE rs J x id S τ h = runS cf rs S (.exit id τ h)
  | [], τ, h, _ => rfl
  | .code b _ :: S, τ, h, ok => popE_eq hJ hx id S τ h ok.2.2.2
  | .blk k :: S, τ, h, ok => by
    show cond (Nat.beq id k) (popX rs J x S τ h) (popE rs J x id S τ h) = cond (Nat.beq id k) _ _
    rw [popX_eq hJ hx S τ h ok, popE_eq hJ hx id S τ h ok]
  | .loop j L b :: S, τ, h, ok => popE_eq hJ hx id S τ h ok.2.2

theorem X_eq (hJ : ∀ p ∈ PL, ∀ τ h, J p.j (p.L.map (Fm.at τ)) h = E cf rs p.c p.S τ h) : ∀ (n : Nat) (c : LC) (S : List LI) (τ : Fm) (h : Hp), okS PL (resP rs) S → lvOk (resP rs) c (XS (resP rs) S).1 (XS (resP rs) S).2 = true → (∀ p ∈ pts c S, p ∈ PL) → X cf rs J n c S τ h = E cf rs c S τ h
  | 0, c, S, τ, h, _, _, _ => rfl
  | n + 1, c, S, τ, h, ok, lo, hp => by
    have ih := X_eq hJ n
    have hpop := popX_eq hJ ih S
    show stepX cf rs J (X cf rs J n) c S τ h = E cf rs c S τ h
    cases c with
    | skip =>
      unfold E
      show popX rs J (X cf rs J n) S τ h = runS cf rs S (semW cf .skip τ h)
      rw [semW_skip]; exact hpop τ h ok
    | ops l =>
      unfold E
      show xOps cf (popX rs J (X cf rs J n) S) l τ h = runS cf rs S (semW cf (.ops l) τ h)
      rw [semW_ops, ← xOps_eq]
      congr 1
      funext τ h; exact hpop τ h ok
    | draw l =>
      unfold E
      show xDraw cf (popX rs J (X cf rs J n) S) l 0 [] [] τ h = runS cf rs S (semW cf (.draw l) τ h)
      rw [semW_draw, ← xDraw_eq]
      congr 1
      funext τ h; exact hpop τ h ok
    | seq a b =>
      obtain ⟨o1, o2⟩ := cond_true (show cond (lvOk (resP rs) b (XS (resP rs) S).1 (XS (resP rs) S).2) (lvOk (resP rs) a (lv (resP rs) b (XS (resP rs) S).1 (XS (resP rs) S).2) (XS (resP rs) S).2) false = true from lo)
      show X cf rs J n a (.code b none :: S) τ h = runS cf rs S (semW cf (.seq a.erase b.erase) τ h)
      rw [E_seq a b none]
      exact ih a (.code b none :: S) τ h ⟨o1, fun p h => hp p (List.mem_append_right _ h), fun _ _ e => (by cases e), ok⟩ o2 (fun p h => hp p (List.mem_append_left _ h))
    | join j L a b =>
      obtain ⟨o0, o⟩ := cond_true (show cond (subP (lv (resP rs) b (XS (resP rs) S).1 (XS (resP rs) S).2) L) (cond (lvOk (resP rs) b (XS (resP rs) S).1 (XS (resP rs) S).2) (lvOk (resP rs) a L (XS (resP rs) S).2) false) false = true from lo)
      obtain ⟨o1, o2⟩ := cond_true o
      show X cf rs J n a (.code b (some (j, L)) :: S) τ h = runS cf rs S (semW cf (.seq a.erase b.erase) τ h)
      rw [E_seq a b (some (j, L))]
      exact ih a (.code b (some (j, L)) :: S) τ h ⟨o1, fun p h => hp p (List.mem_cons_of_mem _ (List.mem_append_right _ h)), fun _ _ e => (by cases e; exact ⟨hp _ (List.mem_cons_self ..), subP_mem o0⟩), ok⟩ o2 (fun p h => hp p (List.mem_cons_of_mem _ (List.mem_append_left _ h)))
    | cond o a b =>
      obtain ⟨o1, o2⟩ := cond_true (show _root_.cond (lvOk (resP rs) a (XS (resP rs) S).1 (XS (resP rs) S).2) (lvOk (resP rs) b (XS (resP rs) S).1 (XS (resP rs) S).2) false = true from lo)
      show condR (X cf rs J n a S τ h) (X cf rs J n b S τ h) (o.ev τ) = runS cf rs S (semW cf (.cond o a.erase b.erase) τ h)
      rw [semW_cond, ih a S τ h ok o1 (fun p h => hp p (List.mem_append_left _ h)), ih b S τ h ok o2 (fun p h => hp p (List.mem_append_right _ h))]
      generalize o.ev τ = v
      cases v with
      | b x => cases x <;> rfl
      | _ => exact (runS_fail S).symm
    | block id b =>
      show X cf rs J n b (.blk id :: S) τ h = runS cf rs S (semW cf (.block id b.erase) τ h)
      rw [semW_block, ih b (.blk id :: S) τ h ok lo hp]
      unfold E
      cases semW cf b.erase τ h with
      | nrm τ1 h1 => rfl
      | ret τ1 h1 => show _ = runS cf rs S (.ret τ1 h1); rw [runS_ret, runS_ret]
      | exit k τ1 h1 =>
        show _root_.cond (Nat.beq k id) _ _ = runS cf rs S (_root_.cond (Nat.beq k id) (.nrm τ1 h1) (.exit k τ1 h1))
        cases Nat.beq k id <;> rfl
      | fail => show _ = runS cf rs S .fail; rw [runS_fail, runS_fail]
    | loop j L b => exact hJ _ (hp _ (List.mem_cons_self ..)) τ h
    | exit id =>
      unfold E
      show popE rs J (X cf rs J n) id S τ h = runS cf rs S (semW cf (.exit id) τ h)
      rw [semW_exit]; exact popE_eq hJ ih id S τ h ok
    | ret =>
      unfold E
      show leaveR rs τ h = runS cf rs S (semW cf .ret τ h)
      rw [semW_ret, runS_ret]
    | bad =>
      unfold E
      show none = runS cf rs S (semW cf .bad τ h)
      have : semW cf .bad τ h = .fail := by
        by_cases c : semW cf .bad τ h = .fail
        · exact c
        · obtain ⟨N, hN⟩ := semW_inv rfl c
          rw [← hN]; rfl
      rw [this, runS_fail]
end
end Go.Fg
/- Code with names for the places where ways meet: calls. -/
namespace Go.Fg

theorem label_erase (F : List Pos) : ∀ (c : ICode) (n : Nat) (N : List Pos) (X : Nat → List Pos), (label F c n N X).1.erase = c
  | .skip, _, _, _ => rfl
  | .ops _, _, _, _ => rfl
  | .draw _, _, _, _ => rfl
  | .exit _, _, _, _ => rfl
  | .ret, _, _, _ => rfl
  | .bad, _, _, _ => rfl
  | .seq a b, n, N, X => by
    unfold label
    have hb := label_erase F b n N X
    simp only []
    split
    · show ICode.seq _ _ = _
      rw [label_erase F a, hb]
    · show ICode.seq _ _ = _
      rw [label_erase F a, hb]
  | .cond c a b, n, N, X => by
    unfold label
    show ICode.cond c _ _ = _
    rw [label_erase F a, label_erase F b]
  | .block id b, n, N, X => by
    unfold label
    show ICode.block id _ = _
    rw [label_erase F b]
  | .loop b, n, N, X => by
    unfold label
    show ICode.loop _ = _
    rw [label_erase F b]

theorem memN_iff {n : Nat} : ∀ {l : List Nat}, memN n l = true ↔ n ∈ l
  | [] => by show false = true ↔ _; simp
  | m :: l => by
    show cond (Nat.beq n m) true (memN n l) = true ↔ _
    rw [List.mem_cons]
    by_cases e : n = m
    · subst e; simp
    · rw [beq_no e]; show memN n l = true ↔ _; rw [memN_iff]; simp [e]
theorem nodupN_iff : ∀ {l : List Nat}, nodupN l = true → l.Nodup
  | [], _ => List.nodup_nil
  | m :: l, h => by
    have h : cond (memN m l) false (nodupN l) = true := h
    cases c : memN m l with
    | true => rw [c] at h; cases h
    | false =>
      rw [c] at h
      refine List.nodup_cons.2 ⟨fun hm => ?_, nodupN_iff h⟩
      rw [memN_iff.2 hm] at c; cases c
theorem findPt_cons (j : Nat) (p : Pt) (l : List Pt) : findPt j (p :: l) = cond (Nat.beq p.j j) (some p) (findPt j l) := rfl
theorem findPt_mem {j : Nat} {p : Pt} : ∀ {l : List Pt}, findPt j l = some p → p ∈ l ∧ p.j = j
  | [], h => by cases h
  | q :: l, h => by
    rw [findPt_cons] at h
    cases c : Nat.beq q.j j with
    | true => rw [c] at h; cases h; exact ⟨List.mem_cons_self .., Nat.eq_of_beq_eq_true c⟩
    | false => rw [c] at h; obtain ⟨a, b⟩ := findPt_mem (l := l) h; exact ⟨List.mem_cons_of_mem _ a, b⟩
theorem findPt_some {p : Pt} : ∀ {l : List Pt}, (l.map (·.j)).Nodup → p ∈ l → findPt p.j l = some p
  | [], _, h => by cases h
  | q :: l, hn, h => by
    rw [findPt_cons]
    rw [List.map_cons, List.nodup_cons] at hn
    rcases List.mem_cons.1 h with rfl | h
    · rw [Nat.beq_refl]; rfl
    · have : q.j ≠ p.j := fun e => hn.1 (by rw [e]; exact List.mem_map_of_mem h)
      rw [beq_no this]
      exact findPt_some hn.2 h

section
variable {cf : CallF} {rs : List IRes}
theorem pts_ok {PL : List Pt} : ∀ (c : LC) (S : List LI), okS PL (resP rs) S → lvOk (resP rs) c (XS (resP rs) S).1 (XS (resP rs) S).2 = true → (∀ p ∈ pts c S, p ∈ PL) →
    ∀ p ∈ pts c S, okS PL (resP rs) p.S ∧ lvOk (resP rs) p.c (XS (resP rs) p.S).1 (XS (resP rs) p.S).2 = true ∧ (∀ q ∈ pts p.c p.S, q ∈ PL) ∧ (∀ q ∈ lv (resP rs) p.c (XS (resP rs) p.S).1 (XS (resP rs) p.S).2, q ∈ p.L)
  | .skip, S, _, _, _, p, hp => by cases hp
  | .ops _, S, _, _, _, p, hp => by cases hp
  | .draw _, S, _, _, _, p, hp => by cases hp
  | .exit _, S, _, _, _, p, hp => by cases hp
  | .ret, S, _, _, _, p, hp => by cases hp
  | .bad, S, _, _, _, p, hp => by cases hp
  | .seq a b, S, ok, lo, hs, p, hp => by
    obtain ⟨o1, o2⟩ := cond_true (show cond (lvOk (resP rs) b (XS (resP rs) S).1 (XS (resP rs) S).2) (lvOk (resP rs) a (lv (resP rs) b (XS (resP rs) S).1 (XS (resP rs) S).2) (XS (resP rs) S).2) false = true from lo)
    have hs1 : ∀ p ∈ pts a (.code b none :: S), p ∈ PL := fun p h => hs p (List.mem_append_left _ h)
    have hs2 : ∀ p ∈ pts b S, p ∈ PL := fun p h => hs p (List.mem_append_right _ h)
    rcases List.mem_append.1 hp with hp | hp
    · exact pts_ok a (.code b none :: S) ⟨o1, hs2, fun _ _ e => (by cases e), ok⟩ o2 hs1 p hp
    · exact pts_ok b S ok o1 hs2 p hp
  | .join j L a b, S, ok, lo, hs, p, hp => by
    obtain ⟨o0, o⟩ := cond_true (show cond (subP (lv (resP rs) b (XS (resP rs) S).1 (XS (resP rs) S).2) L) (cond (lvOk (resP rs) b (XS (resP rs) S).1 (XS (resP rs) S).2) (lvOk (resP rs) a L (XS (resP rs) S).2) false) false = true from lo)
    obtain ⟨o1, o2⟩ := cond_true o
    have hs0 : ⟨j, L, b, S⟩ ∈ PL := hs _ (List.mem_cons_self ..)
    have hs1 : ∀ p ∈ pts a (.code b (some (j, L)) :: S), p ∈ PL := fun p h => hs p (List.mem_cons_of_mem _ (List.mem_append_left _ h))
    have hs2 : ∀ p ∈ pts b S, p ∈ PL := fun p h => hs p (List.mem_cons_of_mem _ (List.mem_append_right _ h))
    rcases List.mem_cons.1 hp with rfl | hp
    · exact ⟨ok, o1, hs2, subP_mem o0⟩
    · rcases List.mem_append.1 hp with hp | hp
      · exact pts_ok a (.code b (some (j, L)) :: S) ⟨o1, hs2, fun _ _ e => (by cases e; exact ⟨hs0, subP_mem o0⟩), ok⟩ o2 hs1 p hp
      · exact pts_ok b S ok o1 hs2 p hp
  | .cond c a b, S, ok, lo, hs, p, hp => by
    obtain ⟨o1, o2⟩ := cond_true (show cond (lvOk (resP rs) a (XS (resP rs) S).1 (XS (resP rs) S).2) (lvOk (resP rs) b (XS (resP rs) S).1 (XS (resP rs) S).2) false = true from lo)
    have hs1 : ∀ p ∈ pts a S, p ∈ PL := fun p h => hs p (List.mem_append_left _ h)
    have hs2 : ∀ p ∈ pts b S, p ∈ PL := fun p h => hs p (List.mem_append_right _ h)
    rcases List.mem_append.1 hp with hp | hp
    · exact pts_ok a S ok o1 hs1 p hp
    · exact pts_ok b S ok o2 hs2 p hp
  | .block id b, S, ok, lo, hs, p, hp => pts_ok b (.blk id :: S) ok lo hs p hp
  | .loop j L b, S, ok, lo, hs, p, hp => by
    obtain ⟨o0, o1⟩ := cond_true (show cond (subP (lv (resP rs) b L (XS (resP rs) S).2) L) (lvOk (resP rs) b L (XS (resP rs) S).2) false = true from lo)
    have hs0 : ⟨j, L, .loop j L b, S⟩ ∈ PL := hs _ (List.mem_cons_self ..)
    rcases List.mem_cons.1 hp with rfl | hp
    · exact ⟨ok, lo, hs, fun q hq => hq⟩
    · exact pts_ok b (.loop j L b :: S) ⟨hs0, lo, ok⟩ o1 (fun p h => hs p (List.mem_cons_of_mem _ h)) p hp

variable {f : LFn} (ok : okFn f = true)
theorem okFn_lv (ok : okFn f = true) : lvOk (resP f.res) f.code (XS (resP f.res) []).1 (XS (resP f.res) []).2 = true := (cond_true (show cond _ _ false = true from ok)).1
theorem okFn_nodup (ok : okFn f = true) : ((pts f.code []).map (·.j)).Nodup := nodupN_iff (cond_true (show cond _ _ false = true from ok)).2
theorem J_pts (ok : okFn f = true) : ∀ p ∈ pts f.code [], ∀ τ h, J cf f p.j (p.L.map (Fm.at τ)) h = E cf f.res p.c p.S τ h := by
  intro p hp τ h
  unfold J
  rw [findPt_some (okFn_nodup ok) hp]
  obtain ⟨k1, k2, k3, k4⟩ := pts_ok (rs := f.res) (PL := pts f.code []) f.code [] trivial (okFn_lv ok) (fun _ h => h) p hp
  unfold E
  exact (runS_ag k1 (semW_ag k2 (frameL_at.sub k4))).symm
/-- EACH PLACE DOES WHAT ITS EXPRESSION SAYS. -/
theorem J_eq (ok : okFn f = true) (j : Nat) (vs : List IV) (h : Hp) : J cf f j vs h = XJ cf f j vs h := by
  unfold XJ
  cases hf : findPt j (pts f.code []) with
  | none => unfold J; rw [hf]
  | some p =>
    obtain ⟨hp, rfl⟩ := findPt_mem hf
    obtain ⟨k1, k2, k3, k4⟩ := pts_ok (rs := f.res) (PL := pts f.code []) f.code [] trivial (okFn_lv ok) (fun _ h => h) p hp
    have hJ := J_pts (cf := cf) ok
    have plain : X cf f.res (J cf f) 100000 p.c p.S (frameL p.L vs) h = E cf f.res p.c p.S (frameL p.L vs) h := X_eq hJ 100000 p.c p.S _ h k1 k2 k3
    have e1 : J cf f p.j vs h = E cf f.res p.c p.S (frameL p.L vs) h := by unfold J; rw [hf]
    rw [e1]
    show _ = XP cf f p (frameL p.L vs) h
    unfold XP
    cases hc : p.c with
    | loop j L b =>
      rw [hc] at k2 k3
      obtain ⟨o0, o1⟩ := cond_true (show cond (subP (lv (resP f.res) b L (XS (resP f.res) p.S).2) L) (lvOk (resP f.res) b L (XS (resP f.res) p.S).2) false = true from k2)
      rw [E_loop]
      exact (X_eq hJ 100000 b (.loop j L b :: p.S) _ h ⟨k3 _ (List.mem_cons_self ..), k2, k1⟩ o1 (fun q hq => k3 q (List.mem_cons_of_mem _ hq))).symm
    | _ => rw [hc] at plain; exact plain.symm
theorem X0_eq (ok : okFn f = true) (args : List IV) (h : Hp) : X0 cf f args h = E cf f.res f.code [] (frameOf args .h .nil) h :=
  X_eq (J_pts ok) 100000 f.code [] _ h trivial (okFn_lv ok) (fun _ h => h)
end
theorem runW_eq {cf : CallF} {fn : IFn} (ok : okFn (labFn fn) = true) (args : List IV) (h : Hp) : runW cf fn args h = X0 cf (labFn fn) args h := by
  rw [X0_eq ok]
  unfold runW E
  have : (labFn fn).code.erase = fn.body := label_erase _ _ _ _ _
  rw [this]
  show leaveI fn.res _ = runS cf fn.res [] _
  cases semW cf fn.body (frameOf args .h .nil) h with
  | nrm τ h => exact (leaveR_eq _ _ _).symm
  | ret τ h => rw [runS_ret]; exact (leaveR_eq _ _ _).symm
  | exit _ _ _ => rfl
  | fail => rfl

/-! ### A program's functions, by their numbers -/
section
variable (P : Program) (Z : Nat → Oper → Bool)
noncomputable def tab : Pos → Option IFn := fun p => cond (Nat.ble p.num 1000000) (compFn P Z (p.num - 1)) none
noncomputable def lfn (k : Nat) : LFn := match compFn P Z k with
  | some f => labFn f
  | none => ⟨[], .bad⟩
noncomputable def okN (k : Nat) : Bool := match compFn P Z k with
  | some f => cond (Nat.blt k 1000000) (okFn (labFn f)) false
  | none => false
variable {P Z}
theorem tab_ok : ∀ n f, n < 1000000 → tab P Z (pos n) = some f → compFn P Z n = some f := by
  intro n f hn h
  unfold tab at h
  obtain ⟨h1, h2⟩ := cond_some h
  rwa [num_pos hn, Nat.add_sub_cancel] at h2
theorem tab_pos {k : Nat} (hk : k < 1000000) : tab P Z (pos k) = compFn P Z k := by
  unfold tab
  rw [num_pos hk, Nat.add_sub_cancel, Nat.ble_eq_true_of_le (by omega)]
  rfl
theorem okN_inv {k : Nat} (h : okN P Z k = true) : ∃ fn, tab P Z (pos k) = some fn ∧ lfn P Z k = labFn fn ∧ okFn (labFn fn) = true ∧ okFn (lfn P Z k) = true ∧ k < 1000000 := by
  unfold okN at h
  split at h
  · rename_i f hf
    obtain ⟨h1, h2⟩ := cond_true h
    have hk : k < 1000000 := by rwa [Nat.blt_eq] at h1
    have e : lfn P Z k = labFn f := by unfold lfn; rw [hf]
    exact ⟨f, by rw [tab_pos hk]; exact hf, e, h2, by rw [e]; exact h2, hk⟩
  · cases h
variable {pl : Pos → List IV → Option IV} {imp : Pos → Bool}
/-- A call that sees what no one writes any more. -/
theorem call_pure {k : Nat} {args args' : List IV} {h h1 h2 h3 : Hp} {r r' : IV} (ok : okN P Z k = true) (hi : imp (pos k) = false) (ha : frzs h args = some (args', h1)) (hp : pl (pos k) args' = none)
    (e : X0 (W pl imp (tab P Z)) (lfn P Z k) args' Hp.empty = some (r, h2)) (hr : frz h2 r = some (r', h3)) : W pl imp (tab P Z) (pos k) args h = some (r', h1) := by
  obtain ⟨fn, h1, h2, h3, h4, _⟩ := okN_inv ok
  refine W_pure hi h1 ha hp ?_ hr
  rw [runW_eq h3, ← h2]; exact e
theorem call_imp {k : Nat} {args : List IV} {h : Hp} {r : IV × Hp} (ok : okN P Z k = true) (hi : imp (pos k) = true) (e : X0 (W pl imp (tab P Z)) (lfn P Z k) args h = some r) : W pl imp (tab P Z) (pos k) args h = some r := by
  obtain ⟨fn, h1, h2, h3, h4, _⟩ := okN_inv ok
  refine W_imp hi h1 ?_
  rw [runW_eq h3, ← h2]; exact e
theorem place {k : Nat} (ok : okN P Z k = true) (cf : CallF) (j : Nat) (vs : List IV) (h : Hp) : J cf (lfn P Z k) j vs h = XJ cf (lfn P Z k) j vs h := by
  obtain ⟨fn, h1, h2, h3, h4, _⟩ := okN_inv ok
  exact J_eq h4 j vs h
end
end Go.Fg
/- What the ideal machine's operations give, in plain words. -/
namespace Go.Fg

def bl (v : IV) (h : Hp) (k : IV → Hp → R) : R := k v h
@[simp] theorem bl_eq (v : IV) (h : Hp) (k : IV → Hp → R) : bl v h k = k v h := rfl
attribute [simp] lenN_eq takeN_eq dropN_eq nth_eq app_eq
@[simp] theorem cells_b (x : Bool) : IV.cells (.b x) = [.b x] := rfl
@[simp] theorem cells_i (k : IntKind) (n : Int) : IV.cells (.i k n) = [.i k n] := rfl
@[simp] theorem cells_s (l : List Nat) : IV.cells (.s l) = [.s l] := rfl
@[simp] theorem cells_p (b : Pos) (o : Nat) : IV.cells (.p b o) = [.p b o] := rfl
@[simp] theorem cells_pn : IV.cells .pn = [.pn] := rfl
@[simp] theorem cells_sl (b : Pos) (o n c z : Nat) : IV.cells (.sl b o n c z) = [.sl b o n c z] := rfl
@[simp] theorem cells_sn : IV.cells .sn = [.sn] := rfl
@[simp] theorem cells_m (r : Pos) : IV.cells (.m r) = [.m r] := rfl
@[simp] theorem cells_mn : IV.cells .mn = [.mn] := rfl
@[simp] theorem cells_f (f : Pos) (l : List IV) : IV.cells (.f f l) = [.f f l] := rfl
@[simp] theorem cells_agg (l : List IV) : IV.cells (.agg l) = l := rfl
@[simp] theorem cells_pi (l : List IV) : IV.cells (.pi l) = [.pi l] := rfl
@[simp] theorem cells_sli (l : List (List IV)) : IV.cells (.sli l) = [.sli l] := rfl
@[simp] theorem cells_mi (l m : List IV) : IV.cells (.mi l m) = [.mi l m] := rfl
@[simp] theorem atom_b (x : Bool) : isAtomV (.b x) = true := rfl
@[simp] theorem atom_i (k : IntKind) (n : Int) : isAtomV (.i k n) = true := rfl
@[simp] theorem atom_s (l : List Nat) : isAtomV (.s l) = true := rfl
@[simp] theorem atom_p (b : Pos) (o : Nat) : isAtomV (.p b o) = true := rfl
@[simp] theorem atom_pn : isAtomV .pn = true := rfl
@[simp] theorem atom_sl (b : Pos) (o n c z : Nat) : isAtomV (.sl b o n c z) = true := rfl
@[simp] theorem atom_sn : isAtomV .sn = true := rfl
@[simp] theorem atom_m (r : Pos) : isAtomV (.m r) = true := rfl
@[simp] theorem atom_f (f : Pos) (l : List IV) : isAtomV (.f f l) = true := rfl
@[simp] theorem atom_pi (l : List IV) : isAtomV (.pi l) = true := rfl
@[simp] theorem atom_sli (l : List (List IV)) : isAtomV (.sli l) = true := rfl
@[simp] theorem atom_mi (l m : List IV) : isAtomV (.mi l m) = true := rfl
attribute [simp] allAtoms_eq

/-! Names and memory. -/
@[simp] theorem empty_next : Hp.empty.next = .h := rfl
attribute [simp] Hp.next_new Hp.next_set Hp.next_kill Pos.nxt_h Pos.nxt_o Pos.nxt_i
@[simp] theorem get_empty (b : Pos) : Hp.empty.get b = none := rfl
@[simp] theorem get_new (h : Hp) (x : Blk) (b : Pos) : (h.new x).get b = if b = h.next then some x else h.get b := by
  split
  · rename_i e; subst e; exact Hp.get_new_eq _ _
  · exact Hp.get_new_ne _ _ ‹_›
@[simp] theorem get_set (h : Hp) (c : Pos) (x : Blk) (b : Pos) : (h.set c x).get b = if b = c then some x else h.get b := by
  split
  · rename_i e; subst e; exact Hp.get_set_eq _ _ _
  · exact Hp.get_set_ne _ _ ‹_›
@[simp] theorem get_kill (h : Hp) (c b : Pos) : (h.kill c).get b = if b = c then none else h.get b := by
  split
  · rename_i e; subst e; exact Hp.get_kill_eq _ _
  · exact Hp.get_kill_ne _ ‹_›
@[simp] theorem cellsOf_cells (n : Nat) (l : List IV) : cellsOf (some (.cells n l)) = some (n, l) := rfl
@[simp] theorem cellsOf_rc (n : Nat) (l : List IV) : cellsOf (some (.rc n l)) = some (n, l) := rfl
@[simp] theorem cellsW_cells (n : Nat) (l : List IV) : cellsW (some (.cells n l)) = some (n, l) := rfl
@[simp] theorem mapOf_map (es : List IEnt) (c : Nat) : mapOf (some (.map es c)) = some (es, c) := rfl
@[simp] theorem mapOf_rm (es : List IEnt) (c : Nat) : mapOf (some (.rm es c)) = some (es, c) := rfl
@[simp] theorem mapW_map (es : List IEnt) (c : Nat) : mapW (some (.map es c)) = some (es, c) := rfl
theorem read_eq {h : Hp} {b : Pos} {m : Nat} {l : List IV} (e : cellsOf (h.get b) = some (m, l)) (o n : Nat) : h.read b o n = if o + n ≤ m then some (if n = m then l else (l.drop o).take n) else none := by
  unfold Hp.read Hp.cells
  rw [e]
  simp only []
  by_cases c : o + n ≤ m
  · rw [Nat.ble_eq_true_of_le c, if_pos c]
    show some _ = some _
    by_cases d : n = m
    · subst d; rw [Nat.beq_refl, if_pos rfl]; rfl
    · rw [beq_no d, if_neg d]; show some (takeN n (dropN o l)) = _; rw [takeN_eq, dropN_eq]
  · rw [ble_no c, if_neg c]; rfl
@[simp] theorem read_new (h : Hp) (n : Nat) (l : List IV) (b : Pos) (o k : Nat) : (h.new (.cells n l)).read b o k = if b = h.next then (if o + k ≤ n then some (if k = n then l else (l.drop o).take k) else none) else h.read b o k := by
  split
  · rename_i e; subst e; exact read_eq (by simp) o k
  · rename_i e; unfold Hp.read Hp.cells; rw [get_new, if_neg e]
@[simp] theorem read_newm (h : Hp) (es : List IEnt) (c : Nat) (b : Pos) (o k : Nat) (e : b ≠ h.next) : (h.new (.map es c)).read b o k = h.read b o k := by
  unfold Hp.read Hp.cells; rw [get_new, if_neg e]
@[simp] theorem read_set (h : Hp) (n : Nat) (l : List IV) (c b : Pos) (o k : Nat) : (h.set c (.cells n l)).read b o k = if b = c then (if o + k ≤ n then some (if k = n then l else (l.drop o).take k) else none) else h.read b o k := by
  split
  · rename_i e; subst e; exact read_eq (by simp) o k
  · rename_i e; unfold Hp.read Hp.cells; rw [get_set, if_neg e]
@[simp] theorem read_setm (h : Hp) (es : List IEnt) (m : Nat) (c b : Pos) (o k : Nat) (e : b ≠ c) : (h.set c (.map es m)).read b o k = h.read b o k := by
  unfold Hp.read Hp.cells; rw [get_set, if_neg e]
theorem read1_eq {h : Hp} {b : Pos} {m : Nat} {l : List IV} (e : cellsOf (h.get b) = some (m, l)) (o : Nat) : h.read1 b o = l[o]? := by
  unfold Hp.read1 Hp.cells
  rw [e]
  exact nth_eq _ _
@[simp] theorem read1_new (h : Hp) (n : Nat) (l : List IV) (b : Pos) (o : Nat) : (h.new (.cells n l)).read1 b o = if b = h.next then l[o]? else h.read1 b o := by
  split
  · rename_i e; subst e; exact read1_eq (m := n) (by simp) o
  · rename_i e; unfold Hp.read1 Hp.cells; rw [get_new, if_neg e]
@[simp] theorem read1_newm (h : Hp) (es : List IEnt) (c : Nat) (b : Pos) (o : Nat) (e : b ≠ h.next) : (h.new (.map es c)).read1 b o = h.read1 b o := by
  unfold Hp.read1 Hp.cells; rw [get_new, if_neg e]
@[simp] theorem read1_set (h : Hp) (n : Nat) (l : List IV) (c b : Pos) (o : Nat) : (h.set c (.cells n l)).read1 b o = if b = c then l[o]? else h.read1 b o := by
  split
  · rename_i e; subst e; exact read1_eq (m := n) (by simp) o
  · rename_i e; unfold Hp.read1 Hp.cells; rw [get_set, if_neg e]
@[simp] theorem read1_setm (h : Hp) (es : List IEnt) (m : Nat) (c b : Pos) (o : Nat) (e : b ≠ c) : (h.set c (.map es m)).read1 b o = h.read1 b o := by
  unfold Hp.read1 Hp.cells; rw [get_set, if_neg e]
theorem write_eq {h : Hp} {b : Pos} {m : Nat} {l : List IV} (e : cellsW (h.get b) = some (m, l)) (o n : Nat) (vs : List IV) : h.write b o n vs = if o + n ≤ m then some (h.set b (.cells m (if n = m then vs else layAt o vs l))) else none := by
  unfold Hp.write
  rw [e]
  simp only []
  by_cases c : o + n ≤ m
  · rw [Nat.ble_eq_true_of_le c, if_pos c]
    show some _ = some _
    by_cases d : n = m
    · subst d; rw [Nat.beq_refl, if_pos rfl]; rfl
    · rw [beq_no d, if_neg d]; rfl
  · rw [ble_no c, if_neg c]; rfl

/-! Looks. -/
@[simp] theorem evMv_eq (x : IV) : evMv [x] = some x := rfl
@[simp] theorem evPick_eq (c : Bool) (x y : IV) : evPick [.b c, x, y] = some (cond c x y) := by cases c <;> rfl
@[simp] theorem evLd_p (n : Nat) (h : Hp) (b : Pos) (o : Nat) : evLd n h [.p b o] = (h.read b o n).map .agg := by
  show (match h.read b o n with | some l => some (IV.agg l) | none => none) = _
  cases h.read b o n <;> rfl
@[simp] theorem evLd_pi (n : Nat) (h : Hp) (l : List IV) : evLd n h [.pi l] = if n ≤ l.length then some (.agg (l.take n)) else none := by
  show cond (Nat.ble n l.length) _ none = _
  by_cases c : n ≤ l.length
  · rw [Nat.ble_eq_true_of_le c, if_pos c]; rfl
  · rw [ble_no c, if_neg c]; rfl
@[simp] theorem evLd1_p (h : Hp) (b : Pos) (o : Nat) : evLd1 h [.p b o] = h.read1 b o := rfl
@[simp] theorem evLd1_pi (h : Hp) (l : List IV) : evLd1 h [.pi l] = l[0]? := rfl
@[simp] theorem evNilck_p (b : Pos) (o : Nat) : evNilck [.p b o] = some (.p b o) := rfl
@[simp] theorem evNilck_pi (l : List IV) : evNilck [.pi l] = some (.pi l) := rfl
@[simp] theorem evNilck_f (f : Pos) (l : List IV) : evNilck [.f f l] = some (.f f l) := rfl
@[simp] theorem evFa_p (n : Nat) (b : Pos) (o : Nat) : evFa n [.p b o] = some (.p b (o + n)) := rfl
@[simp] theorem evFa_pi (n : Nat) (l : List IV) : evFa n [.pi l] = some (.pi (l.drop n)) := rfl
@[simp] theorem evFld1_eq (n : Nat) (l : List IV) : evFld1 n [.agg l] = l[n]? := nth_eq _ _
@[simp] theorem evFld_eq (o n : Nat) (l : List IV) : evFld o n [.agg l] = if o + n ≤ l.length then some (.agg ((l.drop o).take n)) else none := by
  show (match takeCells l o n with | some c => some (IV.agg c) | none => none) = _
  unfold takeCells
  rw [lenN_eq, takeN_eq, dropN_eq]
  by_cases c : o + n ≤ l.length
  · rw [Nat.ble_eq_true_of_le c, if_pos c]; rfl
  · rw [ble_no c, if_neg c]; rfl
theorem evIa_sli {z : Nat} {es : List (List IV)} {k : IntKind} {i : Nat} {e : List IV} (h : es[i]? = some e) (hz : e.length = z) : evIa z [.sli es, .i k (i : Int)] = some (.pi e) := by
  show (match es[i]? with | some e => cond (Nat.beq e.length z) (some (IV.pi e)) none | none => none) = _
  rw [h]
  show cond (Nat.beq e.length z) _ none = _
  rw [hz, Nat.beq_refl]; rfl
theorem evIa_sl {z : Nat} {b : Pos} {o n c : Nat} {k : IntKind} {i : Nat} (h : i < n) : evIa z [.sl b o n c z, .i k (i : Int)] = some (.p b (o + i * z)) := by
  show cond (Nat.blt i n && Nat.beq z z) _ none = _
  have : Nat.blt i n = true := by rw [Nat.blt_eq]; exact h
  rw [this, Nat.beq_refl]; rfl
@[simp] theorem evLens_sli (es : List (List IV)) : evLens [.sli es] = some (.i .i64 es.length) := rfl
@[simp] theorem evLens_sl (b : Pos) (o n c z : Nat) : evLens [.sl b o n c z] = some (.i .i64 n) := rfl
@[simp] theorem evLens_sn : evLens [.sn] = some (.i .i64 0) := rfl
@[simp] theorem evLenstr_eq (l : List Nat) : evLenstr [.s l] = some (.i .i64 l.length) := rfl
theorem evIxs_eq {l : List Nat} {i c : Nat} {k : IntKind} (h : l[i]? = some c) : evIxs [.s l, .i k (i : Int)] = some (.i .u8 c) := by
  show (match l[i]? with | some c => some (IV.i .u8 (Int.ofNat c)) | none => none) = _
  rw [h]; rfl
@[simp] theorem evNot_eq (x : Bool) : evNot [.b x] = some (.b (!x)) := rfl
@[simp] theorem kEq_self (k : IntKind) : kEq k k = true := (kEq_iff k k).2 rfl
@[simp] theorem evBin_lss (k : IntKind) (x y : Int) : evBin .lss [.i k x, .i k y] = some (.b (decide (x < y))) := by
  show cond (kEq k k) (some (IV.b (notB (ile y x)))) none = _
  rw [kEq_self, ile_eq, notB_eq]
  show some (IV.b (!decide (y ≤ x))) = _
  rw [← decide_not]; congr 2; simp
@[simp] theorem evBin_leq (k : IntKind) (x y : Int) : evBin .leq [.i k x, .i k y] = some (.b (decide (x ≤ y))) := by
  show cond (kEq k k) (some (IV.b (ile x y))) none = _
  rw [kEq_self, ile_eq]; rfl
@[simp] theorem evBin_gtr (k : IntKind) (x y : Int) : evBin .gtr [.i k x, .i k y] = some (.b (decide (y < x))) := by
  show cond (kEq k k) (some (IV.b (notB (ile x y)))) none = _
  rw [kEq_self, ile_eq, notB_eq]
  show some (IV.b (!decide (x ≤ y))) = _
  rw [← decide_not]; congr 2; simp
@[simp] theorem evBin_geq (k : IntKind) (x y : Int) : evBin .geq [.i k x, .i k y] = some (.b (decide (y ≤ x))) := by
  show cond (kEq k k) (some (IV.b (ile y x))) none = _
  rw [kEq_self, ile_eq]; rfl
@[simp] theorem evBin_eql (k : IntKind) (x y : Int) : evBin .eql [.i k x, .i k y] = some (.b (decide (x = y))) := by
  show cond (kEq k k) (some (IV.b (ieq x y))) none = _
  rw [kEq_self, ieq_eq]; rfl
@[simp] theorem evBin_neq (k : IntKind) (x y : Int) : evBin .neq [.i k x, .i k y] = some (.b (!decide (x = y))) := by
  show cond (kEq k k) (some (IV.b (notB (ieq x y)))) none = _
  rw [kEq_self, ieq_eq, notB_eq]; rfl
@[simp] theorem evBin_add (k : IntKind) (x y : Int) : evBin .add [.i k x, .i k y] = some (.i k (k.wrap (x + y))) := by
  show cond (kEq k k) (some (IV.i k (wrapI k (iadd x y)))) none = _
  rw [kEq_self, wrapI_eq, iadd_eq]; rfl
@[simp] theorem evBin_sub (k : IntKind) (x y : Int) : evBin .sub [.i k x, .i k y] = some (.i k (k.wrap (x - y))) := by
  show cond (kEq k k) (some (IV.i k (wrapI k (isub x y)))) none = _
  rw [kEq_self, wrapI_eq, isub_eq]; rfl
@[simp] theorem evBin_mul (k : IntKind) (x y : Int) : evBin .mul [.i k x, .i k y] = some (.i k (k.wrap (x * y))) := by
  show cond (kEq k k) (some (IV.i k (wrapI k (x * y)))) none = _
  rw [kEq_self, wrapI_eq]; rfl
theorem evBin_quo (k : IntKind) (x : Int) {y : Int} (h : y ≠ 0) : evBin .quo [.i k x, .i k y] = some (.i k (k.wrap (x.tdiv y))) := by
  show cond (kEq k k) (cond (ieq y 0) none (some (IV.i k (wrapI k (x.tdiv y))))) none = _
  have : ieq y 0 = false := by rw [ieq_eq]; simpa using h
  rw [kEq_self, this, wrapI_eq]; rfl
theorem evBin_rem (k : IntKind) (x : Int) {y : Int} (h : y ≠ 0) : evBin .rem [.i k x, .i k y] = some (.i k (x.tmod y)) := by
  show cond (kEq k k) (cond (ieq y 0) none (some (IV.i k (x.tmod y)))) none = _
  have : ieq y 0 = false := by rw [ieq_eq]; simpa using h
  rw [kEq_self, this]; rfl
theorem wrap64 {n : Int} (h1 : -9223372036854775808 ≤ n) (h2 : n ≤ 9223372036854775807) : IntKind.wrap .i64 n = n := by
  have := wrapI_eq .i64 n
  rw [← this]
  unfold wrapI inI64
  cases n with
  | ofNat m =>
    have : m ≤ 9223372036854775807 := by have : (m : Int) ≤ 9223372036854775807 := h2; omega
    show ifI (Nat.beq 3 3) (ifI (Nat.ble m 9223372036854775807) (.ofNat m) _) _ = _
    rw [Nat.ble_eq_true_of_le this]; rfl
  | negSucc m =>
    have : m ≤ 9223372036854775807 := by omega
    show ifI (Nat.beq 3 3) (ifI (Nat.ble m 9223372036854775807) (.negSucc m) _) _ = _
    rw [Nat.ble_eq_true_of_le this]; rfl
@[simp] theorem evBins_eql (x y : List Nat) : evBins .eql [.s x, .s y] = some (.b (decide (x = y))) := by
  show some (IV.b (seq x y)) = _
  rw [seq_eq]; congr 2; by_cases h : x = y <;> simp [h]
@[simp] theorem evBins_neq (x y : List Nat) : evBins .neq [.s x, .s y] = some (.b (!decide (x = y))) := by
  show some (IV.b (!(seq x y))) = _
  rw [seq_eq]; congr 3; by_cases h : x = y <;> simp [h]
@[simp] theorem evEqb_eq (n x y : Bool) : evEqb n [.b x, .b y] = some (.b (if n then x != y else x == y)) := by cases n <;> rfl
@[simp] theorem wantV_eq (w x : Bool) : wantV w (.b x) = (x == w) := rfl
@[simp] theorem condR_eq (x y : R) (c : Bool) : condR x y (.b c) = if c then x else y := by cases c <;> rfl
theorem cond_if {α : Type} (c : Bool) (x y : α) : cond c x y = if c then x else y := by cases c <;> rfl
theorem cond_pre_t {α : Type} {c : Bool} {x y : α} (h : c = true) : cond c x y = x := by rw [h]; rfl
theorem cond_pre_f {α : Type} {c : Bool} {x y : α} (h : c = false) : cond c x y = y := by rw [h]; rfl
@[simp] theorem cond_some' {α : Type} (c : Bool) (x y : α) : cond c (some x) (some y) = some (cond c x y) := by cases c <;> rfl
@[simp] theorem cond_bool (c x y : Bool) : cond c (IV.b x) (IV.b y) = IV.b (cond c x y) := by cases c <;> rfl
@[simp] theorem cond_pair {α β : Type} (c : Bool) (x y : α) (u v : β) : cond c (x, u) (y, v) = (cond c x y, cond c u v) := by cases c <;> rfl
@[simp] theorem cond_same {α : Type} (c : Bool) (x : α) : cond c x x = x := by cases c <;> rfl
@[simp] theorem exCall_f (cf : CallF) (f : Pos) (caps args : List IV) (h : Hp) : exCall cf (.f f caps) args h = cf f (args ++ caps) h := rfl
@[simp] theorem evExt_eq (n : Nat) (l : List IV) : evExt n [.tup l] = l[n]? := nth_eq _ _
@[simp] theorem evEqp_1 (n : Bool) : evEqp n [.pn, .pn] = some (.b (!n)) := rfl
@[simp] theorem evEqp_2 (n : Bool) (b : Pos) (o : Nat) : evEqp n [.p b o, .pn] = some (.b n) := rfl
@[simp] theorem evEqp_3 (n : Bool) (l : List IV) : evEqp n [.pi l, .pn] = some (.b n) := rfl

/-! Struct comparison. -/
@[simp] theorem eqCells_nil' : eqCells [] [] [] = some true := rfl
@[simp] theorem eqCells_cons' (k : Nat) (ks : List Nat) (a b : IV) (x y : List IV) : eqCells (k :: ks) (a :: x) (b :: y) = andO (eqCell k a b) (eqCells ks x y) := rfl
@[simp] theorem eqCell_i (k : IntKind) (a b : Int) : eqCell 0 (.i k a) (.i k b) = some (decide (a = b)) := by
  show cond (Nat.beq 0 0) (cond (kEq k k) (some (ieq a b)) none) none = _
  rw [kEq_self, ieq_eq]; rfl
@[simp] theorem eqCell_b (a b : Bool) : eqCell 1 (.b a) (.b b) = some (decide (a = b)) := by
  show some (a == b) = _
  cases a <;> cases b <;> rfl
@[simp] theorem eqCell_s (a b : List Nat) : eqCell 2 (.s a) (.s b) = some (decide (a = b)) := by
  show some (seq a b) = _
  rw [seq_eq]; congr 1; by_cases h : a = b <;> simp [h]
@[simp] theorem andO_some' (a b : Bool) : andO (some a) (some b) = some (a && b) := by cases a <;> rfl
@[simp] theorem evEqa_eq (n : Bool) (ks : List Nat) (x y : List IV) : evEqa n ks [.agg x, .agg y] = (eqCells ks x y).map fun r => .b (if n then !r else r) := by
  show (match eqCells ks x y with | some r => some (IV.b (cond n (!r) r)) | none => none) = _
  cases eqCells ks x y <;> cases n <;> rfl

/-! Freezing. -/
theorem frzF_succ_b (n : Nat) (h : Hp) (x : Bool) : frzF (n + 1) h (.b x) = some (.b x, h) := rfl
@[simp] theorem frz_b (h : Hp) (x : Bool) : frz h (.b x) = some (.b x, h) := rfl
@[simp] theorem frz_i (h : Hp) (k : IntKind) (x : Int) : frz h (.i k x) = some (.i k x, h) := rfl
@[simp] theorem frz_s (h : Hp) (x : List Nat) : frz h (.s x) = some (.s x, h) := rfl
@[simp] theorem frz_pn (h : Hp) : frz h .pn = some (.pn, h) := rfl
@[simp] theorem frz_sn (h : Hp) : frz h .sn = some (.sli [], h) := rfl
@[simp] theorem frz_mn (h : Hp) : frz h .mn = some (.mi [] [], h) := rfl
@[simp] theorem frz_fn (h : Hp) : frz h .fn = some (.fn, h) := rfl
@[simp] theorem frz_pi (h : Hp) (l : List IV) : frz h (.pi l) = some (.pi l, h) := rfl
@[simp] theorem frz_sli (h : Hp) (l : List (List IV)) : frz h (.sli l) = some (.sli l, h) := rfl
@[simp] theorem frz_mi (h : Hp) (l m : List IV) : frz h (.mi l m) = some (.mi l m, h) := rfl
@[simp] theorem frzs_nil (h : Hp) : frzs h [] = some ([], h) := rfl
@[simp] theorem frzs_cons (h : Hp) (v : IV) (vs : List IV) : frzs h (v :: vs) = (frz h v).bind fun p => (frzs p.2 vs).bind fun q => some (p.1 :: q.1, q.2) := by
  show frzL frz h (v :: vs) = _
  unfold frzL
  cases frz h v with
  | none => rfl
  | some p =>
    obtain ⟨u, h'⟩ := p
    show (match frzL frz h' vs with | none => none | some (us, h'') => some (u :: us, h'')) = _
    show _ = (frzL frz h' vs).bind _
    cases frzL frz h' vs <;> rfl

/-- A value in which no one writes any more. -/
def Im : IV → Bool
  | .b _ | .i _ _ | .s _ | .pn | .fn | .inn | .pi _ | .sli _ | .mi _ _ => true
  | _ => false
theorem frzF_im (n : Nat) (h : Hp) {v : IV} (hv : Im v = true) : frzF (n + 1) h v = some (v, h) := by
  cases v <;> first | rfl | (cases hv; done)
theorem frzL_im (n : Nat) (h : Hp) : ∀ {l : List IV}, (l.all Im = true) → frzL (frzF (n + 1)) h l = some (l, h)
  | [], _ => rfl
  | v :: vs, hv => by
    simp only [List.all_cons, Bool.and_eq_true] at hv
    unfold frzL
    rw [frzF_im n h hv.1]
    simp only []
    rw [frzL_im n h hv.2]
theorem frz_agg {h : Hp} {l : List IV} (hl : l.all Im = true) : frz h (.agg l) = some (.agg l, h) := by
  show (match frzL (frzF 39) h l with | some (l', h') => some (IV.agg l', h') | none => none) = _
  rw [frzL_im 38 h hl]
theorem frz_tup {h : Hp} {l : List IV} (hl : l.all Im = true) : frz h (.tup l) = some (.tup l, h) := by
  show (match frzL (frzF 39) h l with | some (l', h') => some (IV.tup l', h') | none => none) = _
  rw [frzL_im 38 h hl]
theorem frz_f {h : Hp} {f : Pos} {l : List IV} (hl : l.all Im = true) : frz h (.f f l) = some (.f f l, h) := by
  show (match frzL (frzF 39) h l with | some (l', h') => some (IV.f f l', h') | none => none) = _
  rw [frzL_im 38 h hl]
theorem frz_p {h : Hp} {b : Pos} {o m : Nat} {l : List IV} (hb : cellsOf (h.get b) = some (m, l)) (hl : l.all Im = true) : frz h (.p b o) = some (.pi (l.drop o), h.set b (.rc m l)) := by
  show (match cellsOf (h.get b) with | some (m, l) => (match frzL (frzF 39) h l with | some (l', h') => some (IV.pi (l'.drop o), h'.set b (.rc m l)) | none => none) | none => none) = _
  rw [hb]
  simp only []
  rw [frzL_im 38 h hl]
theorem frz_sl {h : Hp} {b : Pos} {o n c z m : Nat} {l : List IV} (hb : cellsOf (h.get b) = some (m, l)) (hn : n ≠ 0) (hm : o + n * z ≤ m) (hl : ((l.drop o).take (n * z)).all Im = true) :
    frz h (.sl b o n c z) = some (.sli (chunks z n ((l.drop o).take (n * z))), h.set b (.rc m l)) := by
  show cond (Nat.beq n 0) _ (match cellsOf (h.get b) with | some (m, l) => cond (Nat.ble (o + n * z) m) (match frzL (frzF 39) h ((l.drop o).take (n * z)) with | some (l', h') => some (IV.sli (chunks z n l'), h'.set b (.rc m l)) | none => none) none | none => none) = _
  rw [hb, beq_no hn]
  simp only [cond_false]
  rw [Nat.ble_eq_true_of_le hm, frzL_im 38 h hl]
  rfl
@[simp] theorem frz_sl0 (h : Hp) (b : Pos) (o c z : Nat) : frz h (.sl b o 0 c z) = some (.sli [], h) := rfl
end Go.Fg
/- The ideal machine once more, as closures: quick for the kernel. -/
namespace Go.Fg

structure Env where
  N : Nat
  cf : CallF
  looks : List Seen
  old : List (Nat × Hp)
abbrev Cd := Env → Fm → Hp → Out
abbrev Ac := Fm → IV

/-! Eliminators without anything captured. -/
noncomputable def getV (t : PT IV) : Pos → Option IV := @PT.rec IV (fun _ => Pos → Option IV) (fun _ => none) (fun _ v _ il ir p => @Pos.rec (fun _ => Option IV → (Pos → Option IV) → (Pos → Option IV) → Option IV) (fun v _ _ => v) (fun p _ _ il _ => il p) (fun p _ _ _ ir => ir p) p v il ir) t
noncomputable def getB (t : PT Blk) : Pos → Option Blk := @PT.rec Blk (fun _ => Pos → Option Blk) (fun _ => none) (fun _ v _ il ir p => @Pos.rec (fun _ => Option Blk → (Pos → Option Blk) → (Pos → Option Blk) → Option Blk) (fun v _ _ => v) (fun p _ _ il _ => il p) (fun p _ _ _ ir => ir p) p v il ir) t
noncomputable def putV (t : PT IV) (p : Pos) (x : IV) : PT IV :=
  @Pos.rec (fun _ => PT IV → Option IV → PT IV)
    (fun t x => @PT.rec IV (fun _ => Option IV → PT IV) (fun x => .nd .nil x .nil) (fun l _ r _ _ x => .nd l x r) t x)
    (fun _ ih t x => @PT.rec IV (fun _ => (PT IV → Option IV → PT IV) → Option IV → PT IV) (fun ih x => .nd (ih .nil x) none .nil) (fun l v r _ _ ih x => .nd (ih l x) v r) t ih x)
    (fun _ ih t x => @PT.rec IV (fun _ => (PT IV → Option IV → PT IV) → Option IV → PT IV) (fun ih x => .nd .nil none (ih .nil x)) (fun l v r _ _ ih x => .nd l v (ih r x)) t ih x) p t (some x)
noncomputable def putB (t : PT Blk) (p : Pos) (x : Option Blk) : PT Blk :=
  @Pos.rec (fun _ => PT Blk → Option Blk → PT Blk)
    (fun t x => @PT.rec Blk (fun _ => Option Blk → PT Blk) (fun x => .nd .nil x .nil) (fun l _ r _ _ x => .nd l x r) t x)
    (fun _ ih t x => @PT.rec Blk (fun _ => (PT Blk → Option Blk → PT Blk) → Option Blk → PT Blk) (fun ih x => .nd (ih .nil x) none .nil) (fun l v r _ _ ih x => .nd (ih l x) v r) t ih x)
    (fun _ ih t x => @PT.rec Blk (fun _ => (PT Blk → Option Blk → PT Blk) → Option Blk → PT Blk) (fun ih x => .nd .nil none (ih .nil x)) (fun l v r _ _ ih x => .nd l v (ih r x)) t ih x) p t x
noncomputable def setB (h : Hp) (b : Pos) (x : Blk) : Hp := ⟨putB h.t b (some x), h.next⟩
noncomputable def newB (h : Hp) (x : Blk) : Hp := ⟨putB h.t h.next (some x), h.next.nxt⟩

noncomputable def ifO (c : Bool) (a b : Out) : Out := @Bool.rec (fun _ => Out) b a c
noncomputable def thenF (k : Fm → Hp → Out) (r : Out) : Out := @Out.rec (fun _ => (Fm → Hp → Out) → Out) (fun τ h k => k τ h) (fun τ h _ => .ret τ h) (fun id τ h _ => .exit id τ h) (fun _ => .fail) r k
noncomputable def blockF (id : Nat) (r : Out) : Out := @Out.rec (fun _ => Nat → Out) (fun τ h _ => .nrm τ h) (fun τ h _ => .ret τ h) (fun k τ h id => ifO (Nat.beq k id) (.nrm τ h) (.exit k τ h)) (fun _ => .fail) r id
noncomputable def loopF (body : Fm → Hp → Out) (n : Nat) : Fm → Hp → Out := @Nat.rec (fun _ => Fm → Hp → Out) (fun _ _ => .fail) (fun _ self τ h => thenF self (body τ h)) n
noncomputable def onP (v : IV) : (Pos → Nat → Out) → Out := @IV.rec (fun _ => (Pos → Nat → Out) → Out) (fun _ => Unit) (fun _ => Unit) (fun _ _ => .fail) (fun _ _ _ => .fail) (fun _ _ => .fail) (fun x0 x1 k => k x0 x1) (fun _ => .fail) (fun _ _ _ _ _ _ => .fail) (fun _ => .fail) (fun _ _ => .fail) (fun _ => .fail) (fun _ _ _ _ => .fail) (fun _ => .fail) (fun _ _ _ => .fail) (fun _ _ _ => .fail) (fun _ _ _ _ => .fail) (fun _ => .fail) (fun _ _ _ => .fail) (fun _ _ _ => .fail) (fun _ _ _ _ _ => .fail) () (fun _ _ _ _ => ()) () (fun _ _ _ _ => ()) v
noncomputable def onPd (v : IV) : (Pos → Nat → Out) → Out → Out := @IV.rec (fun _ => (Pos → Nat → Out) → Out → Out) (fun _ => Unit) (fun _ => Unit) (fun _ _ d => d) (fun _ _ _ d => d) (fun _ _ d => d) (fun x0 x1 k _ => k x0 x1) (fun _ d => d) (fun _ _ _ _ _ _ d => d) (fun _ d => d) (fun _ _ d => d) (fun _ d => d) (fun _ _ _ _ d => d) (fun _ d => d) (fun _ _ _ d => d) (fun _ _ _ d => d) (fun _ _ _ _ d => d) (fun _ d => d) (fun _ _ _ d => d) (fun _ _ _ d => d) (fun _ _ _ _ _ d => d) () (fun _ _ _ _ => ()) () (fun _ _ _ _ => ()) v
noncomputable def onI (v : IV) : (IntKind → Int → Out) → Out := @IV.rec (fun _ => (IntKind → Int → Out) → Out) (fun _ => Unit) (fun _ => Unit) (fun _ _ => .fail) (fun x0 x1 k => k x0 x1) (fun _ _ => .fail) (fun _ _ _ => .fail) (fun _ => .fail) (fun _ _ _ _ _ _ => .fail) (fun _ => .fail) (fun _ _ => .fail) (fun _ => .fail) (fun _ _ _ _ => .fail) (fun _ => .fail) (fun _ _ _ => .fail) (fun _ _ _ => .fail) (fun _ _ _ _ => .fail) (fun _ => .fail) (fun _ _ _ => .fail) (fun _ _ _ => .fail) (fun _ _ _ _ _ => .fail) () (fun _ _ _ _ => ()) () (fun _ _ _ _ => ()) v
noncomputable def onB (v : IV) : (Bool → Out) → Out := @IV.rec (fun _ => (Bool → Out) → Out) (fun _ => Unit) (fun _ => Unit) (fun x0 k => k x0) (fun _ _ _ => .fail) (fun _ _ => .fail) (fun _ _ _ => .fail) (fun _ => .fail) (fun _ _ _ _ _ _ => .fail) (fun _ => .fail) (fun _ _ => .fail) (fun _ => .fail) (fun _ _ _ _ => .fail) (fun _ => .fail) (fun _ _ _ => .fail) (fun _ _ _ => .fail) (fun _ _ _ _ => .fail) (fun _ => .fail) (fun _ _ _ => .fail) (fun _ _ _ => .fail) (fun _ _ _ _ _ => .fail) () (fun _ _ _ _ => ()) () (fun _ _ _ _ => ()) v
noncomputable def onS (v : IV) : (List Nat → Out) → Out := @IV.rec (fun _ => (List Nat → Out) → Out) (fun _ => Unit) (fun _ => Unit) (fun _ _ => .fail) (fun _ _ _ => .fail) (fun x0 k => k x0) (fun _ _ _ => .fail) (fun _ => .fail) (fun _ _ _ _ _ _ => .fail) (fun _ => .fail) (fun _ _ => .fail) (fun _ => .fail) (fun _ _ _ _ => .fail) (fun _ => .fail) (fun _ _ _ => .fail) (fun _ _ _ => .fail) (fun _ _ _ _ => .fail) (fun _ => .fail) (fun _ _ _ => .fail) (fun _ _ _ => .fail) (fun _ _ _ _ _ => .fail) () (fun _ _ _ _ => ()) () (fun _ _ _ _ => ()) v
noncomputable def onSl (v : IV) : (Pos → Nat → Nat → Nat → Nat → Out) → Out := @IV.rec (fun _ => (Pos → Nat → Nat → Nat → Nat → Out) → Out) (fun _ => Unit) (fun _ => Unit) (fun _ _ => .fail) (fun _ _ _ => .fail) (fun _ _ => .fail) (fun _ _ _ => .fail) (fun _ => .fail) (fun x0 x1 x2 x3 x4 k => k x0 x1 x2 x3 x4) (fun _ => .fail) (fun _ _ => .fail) (fun _ => .fail) (fun _ _ _ _ => .fail) (fun _ => .fail) (fun _ _ _ => .fail) (fun _ _ _ => .fail) (fun _ _ _ _ => .fail) (fun _ => .fail) (fun _ _ _ => .fail) (fun _ _ _ => .fail) (fun _ _ _ _ _ => .fail) () (fun _ _ _ _ => ()) () (fun _ _ _ _ => ()) v
noncomputable def onSld (v : IV) : (Pos → Nat → Nat → Nat → Nat → Out) → Out → Out := @IV.rec (fun _ => (Pos → Nat → Nat → Nat → Nat → Out) → Out → Out) (fun _ => Unit) (fun _ => Unit) (fun _ _ d => d) (fun _ _ _ d => d) (fun _ _ d => d) (fun _ _ _ d => d) (fun _ d => d) (fun x0 x1 x2 x3 x4 k _ => k x0 x1 x2 x3 x4) (fun _ d => d) (fun _ _ d => d) (fun _ d => d) (fun _ _ _ _ d => d) (fun _ d => d) (fun _ _ _ d => d) (fun _ _ _ d => d) (fun _ _ _ _ d => d) (fun _ d => d) (fun _ _ _ d => d) (fun _ _ _ d => d) (fun _ _ _ _ _ d => d) () (fun _ _ _ _ => ()) () (fun _ _ _ _ => ()) v
noncomputable def onLen (v : IV) : (Nat → Out) → Out := @IV.rec (fun _ => (Nat → Out) → Out) (fun _ => Unit) (fun _ => Unit) (fun _ _ => .fail) (fun _ _ _ => .fail) (fun _ _ => .fail) (fun _ _ _ => .fail) (fun _ => .fail) (fun _ _ x2 _ _ k => k x2) (fun k => k 0) (fun _ _ => .fail) (fun _ => .fail) (fun _ _ _ _ => .fail) (fun _ => .fail) (fun _ _ _ => .fail) (fun _ _ _ => .fail) (fun _ _ _ _ => .fail) (fun _ => .fail) (fun _ _ _ => .fail) (fun es _ k => k es.length) (fun _ _ _ _ _ => .fail) () (fun _ _ _ _ => ()) () (fun _ _ _ _ => ()) v
noncomputable def onAgg (v : IV) : (List IV → Out) → Out := @IV.rec (fun _ => (List IV → Out) → Out) (fun _ => Unit) (fun _ => Unit) (fun _ _ => .fail) (fun _ _ _ => .fail) (fun _ _ => .fail) (fun _ _ _ => .fail) (fun _ => .fail) (fun _ _ _ _ _ _ => .fail) (fun _ => .fail) (fun _ _ => .fail) (fun _ => .fail) (fun _ _ _ _ => .fail) (fun _ => .fail) (fun x0 _ k => k x0) (fun _ _ _ => .fail) (fun _ _ _ _ => .fail) (fun _ => .fail) (fun _ _ _ => .fail) (fun _ _ _ => .fail) (fun _ _ _ _ _ => .fail) () (fun _ _ _ _ => ()) () (fun _ _ _ _ => ()) v
noncomputable def onTup (v : IV) : (List IV → Out) → Out := @IV.rec (fun _ => (List IV → Out) → Out) (fun _ => Unit) (fun _ => Unit) (fun _ _ => .fail) (fun _ _ _ => .fail) (fun _ _ => .fail) (fun _ _ _ => .fail) (fun _ => .fail) (fun _ _ _ _ _ _ => .fail) (fun _ => .fail) (fun _ _ => .fail) (fun _ => .fail) (fun _ _ _ _ => .fail) (fun _ => .fail) (fun _ _ _ => .fail) (fun x0 _ k => k x0) (fun _ _ _ _ => .fail) (fun _ => .fail) (fun _ _ _ => .fail) (fun _ _ _ => .fail) (fun _ _ _ _ _ => .fail) () (fun _ _ _ _ => ()) () (fun _ _ _ _ => ()) v
noncomputable def onF (v : IV) : (Pos → List IV → Out) → Out := @IV.rec (fun _ => (Pos → List IV → Out) → Out) (fun _ => Unit) (fun _ => Unit) (fun _ _ => .fail) (fun _ _ _ => .fail) (fun _ _ => .fail) (fun _ _ _ => .fail) (fun _ => .fail) (fun _ _ _ _ _ _ => .fail) (fun _ => .fail) (fun _ _ => .fail) (fun _ => .fail) (fun x0 x1 _ k => k x0 x1) (fun _ => .fail) (fun _ _ _ => .fail) (fun _ _ _ => .fail) (fun _ _ _ _ => .fail) (fun _ => .fail) (fun _ _ _ => .fail) (fun _ _ _ => .fail) (fun _ _ _ _ _ => .fail) () (fun _ _ _ _ => ()) () (fun _ _ _ _ => ()) v
noncomputable def onGood (v : IV) : Out → Out := @IV.rec (fun _ => Out → Out) (fun _ => Unit) (fun _ => Unit) (fun _ k => k) (fun _ _ k => k) (fun _ k => k) (fun _ _ k => k) (fun _ => .fail) (fun _ _ _ _ _ k => k) (fun k => k) (fun _ k => k) (fun k => k) (fun _ _ _ k => k) (fun _ => .fail) (fun _ _ k => k) (fun _ _ k => k) (fun _ _ _ k => k) (fun _ => .fail) (fun _ _ k => k) (fun _ _ k => k) (fun _ _ _ _ k => k) () (fun _ _ _ _ => ()) () (fun _ _ _ _ => ()) v
noncomputable def condV (v : IV) : Out → Out → Out := @IV.rec (fun _ => Out → Out → Out) (fun _ => Unit) (fun _ => Unit) (fun x0 a b => @Bool.rec (fun _ => Out) b a x0) (fun _ _ _ _ => .fail) (fun _ _ _ => .fail) (fun _ _ _ _ => .fail) (fun _ _ => .fail) (fun _ _ _ _ _ _ _ => .fail) (fun _ _ => .fail) (fun _ _ _ => .fail) (fun _ _ => .fail) (fun _ _ _ _ _ => .fail) (fun _ _ => .fail) (fun _ _ _ _ => .fail) (fun _ _ _ _ => .fail) (fun _ _ _ _ _ => .fail) (fun _ _ => .fail) (fun _ _ _ _ => .fail) (fun _ _ _ _ => .fail) (fun _ _ _ _ _ _ => .fail) () (fun _ _ _ _ => ()) () (fun _ _ _ _ => ()) v
noncomputable def guardV (v : IV) : Bool → Out → Out → Out := @IV.rec (fun _ => Bool → Out → Out → Out) (fun _ => Unit) (fun _ => Unit) (fun x0 w a b => @Bool.rec (fun _ => Out) (@Bool.rec (fun _ => Out) a b w) (@Bool.rec (fun _ => Out) b a w) x0) (fun _ _ _ _ b => b) (fun _ _ _ b => b) (fun _ _ _ _ b => b) (fun _ _ b => b) (fun _ _ _ _ _ _ _ b => b) (fun _ _ b => b) (fun _ _ _ b => b) (fun _ _ b => b) (fun _ _ _ _ _ b => b) (fun _ _ b => b) (fun _ _ _ _ b => b) (fun _ _ _ _ b => b) (fun _ _ _ _ _ b => b) (fun _ _ b => b) (fun _ _ _ _ b => b) (fun _ _ _ _ b => b) (fun _ _ _ _ _ _ b => b) () (fun _ _ _ _ => ()) () (fun _ _ _ _ => ()) v
noncomputable def onNilP (v : IV) : (Bool → Out) → Out := @IV.rec (fun _ => (Bool → Out) → Out) (fun _ => Unit) (fun _ => Unit) (fun _ _ => .fail) (fun _ _ _ => .fail) (fun _ _ => .fail) (fun _ _ k => k false) (fun k => k true) (fun _ _ _ _ _ _ => .fail) (fun _ => .fail) (fun _ _ => .fail) (fun _ => .fail) (fun _ _ _ _ => .fail) (fun _ => .fail) (fun _ _ _ => .fail) (fun _ _ _ => .fail) (fun _ _ _ _ => .fail) (fun _ => .fail) (fun _ _ _ => .fail) (fun _ _ _ => .fail) (fun _ _ _ _ _ => .fail) () (fun _ _ _ _ => ()) () (fun _ _ _ _ => ()) v
noncomputable def optO (o : Option IV) (k : IV → Out) : Out := @Option.rec IV (fun _ => (IV → Out) → Out) (fun _ => .fail) (fun v k => k v) o k
noncomputable def optE (o : Option (IV × Hp)) (k : IV → Hp → Out) : Out := @Option.rec (IV × Hp) (fun _ => (IV → Hp → Out) → Out) (fun _ => .fail) (fun v k => k v.1 v.2) o k
noncomputable def optL (o : Option (List IV)) (k : List IV → Out) : Out := @Option.rec (List IV) (fun _ => (List IV → Out) → Out) (fun _ => .fail) (fun v k => k v) o k
noncomputable def optA (o : Option (Blk × IV)) (k : Blk → IV → Out) : Out := @Option.rec (Blk × IV) (fun _ => (Blk → IV → Out) → Out) (fun _ => .fail) (fun v k => k v.1 v.2) o k
noncomputable def onNat (n : Int) (k : Nat → Out) : Out := @Int.rec (fun _ => (Nat → Out) → Out) (fun n k => k n) (fun _ _ => .fail) n k
noncomputable def onCells (o : Option Blk) (k : Nat → List IV → Out) : Out := @Option.rec Blk (fun _ => (Nat → List IV → Out) → Out) (fun _ => .fail) (fun x k => @Blk.rec (fun _ => (Nat → List IV → Out) → Out) (fun n l k => k n l) (fun _ _ _ => .fail) (fun n l k => k n l) (fun _ _ _ => .fail) x k) o k
noncomputable def onCellsW (o : Option Blk) (k : Nat → List IV → Out) : Out := @Option.rec Blk (fun _ => (Nat → List IV → Out) → Out) (fun _ => .fail) (fun x k => @Blk.rec (fun _ => (Nat → List IV → Out) → Out) (fun n l k => k n l) (fun _ _ _ => .fail) (fun _ _ _ => .fail) (fun _ _ _ => .fail) x k) o k
noncomputable def ifL (c : Bool) (a b : List IV) : List IV := @Bool.rec (fun _ => List IV) b a c
/-- The cells of a value. -/
noncomputable def cellsV (v : IV) : List IV := @IV.rec (fun _ => List IV) (fun _ => Unit) (fun _ => Unit) (fun x => [.b x]) (fun x0 x1 => [.i x0 x1]) (fun x0 => [.s x0]) (fun x0 x1 => [.p x0 x1]) [.pn] (fun x0 x1 x2 x3 x4 => [.sl x0 x1 x2 x3 x4]) [.sn] (fun x => [.m x]) [.mn] (fun x0 x1 _ => [.f x0 x1]) [.fn] (fun l _ => l) (fun l _ => [.tup l]) (fun x0 x1 _ => [.ic x0 x1]) [.inn] (fun l _ => [.pi l]) (fun l _ => [.sli l]) (fun l m _ _ => [.mi l m]) () (fun _ _ _ _ => ()) () (fun _ _ _ _ => ()) v

noncomputable def gt (n : Pos) : Ac := fun τ => @Option.rec IV (fun _ => IV) undefd (fun v => v) (getV τ n)
def ct (v : IV) : Ac := fun _ => v
noncomputable def acc : Od → Ac
  | .t n => gt n
  | .c v => ct v
noncomputable def accs (l : List Od) : List Ac := l.map acc
noncomputable def vals (τ : Fm) (l : List Ac) : List IV := @List.rec Ac (fun _ => List IV) [] (fun x _ r => x τ :: r) l

def fin : Cd := fun _ τ h => .nrm τ h
noncomputable def mvK (x : Ac) (d : Pos) (k : Cd) : Cd := fun E τ h => k E (putV τ d (x τ)) h
noncomputable def faK (n : Nat) (x : Ac) (d : Pos) (k : Cd) : Cd := fun E τ h => onPd (x τ) (fun b o => k E (putV τ d (.p b (Nat.add o n))) h) (optO (evFa n [x τ]) (fun v => k E (putV τ d v) h))
noncomputable def ld1K (x : Ac) (d : Pos) (k : Cd) : Cd := fun E τ h => onPd (x τ) (fun b o => onCells (getB h.t b) (fun _ l => optO (nth o l) (fun v => k E (putV τ d v) h))) (optO (evLd1 h [x τ]) (fun v => k E (putV τ d v) h))
noncomputable def ldK (n : Nat) (x : Ac) (d : Pos) (k : Cd) : Cd := fun E τ h => onPd (x τ) (fun b o => onCells (getB h.t b) (fun m l => ifO (Nat.ble (Nat.add o n) m) (k E (putV τ d (.agg (ifL (Nat.beq n m) l (takeN n (dropN o l))))) h) .fail)) (optO (evLd n h [x τ]) (fun v => k E (putV τ d v) h))
noncomputable def extK (i : Nat) (x : Ac) (d : Pos) (k : Cd) : Cd := fun E τ h => onTup (x τ) (fun l => optO (nth i l) (fun v => k E (putV τ d v) h))
noncomputable def lensK (x : Ac) (d : Pos) (k : Cd) : Cd := fun E τ h => onLen (x τ) (fun n => k E (putV τ d (.i .i64 (.ofNat n))) h)
noncomputable def nilckK (x : Ac) (d : Pos) (k : Cd) : Cd := fun E τ h => onGood (x τ) (k E (putV τ d (x τ)) h)
noncomputable def iaK (z : Nat) (x y : Ac) (d : Pos) (k : Cd) : Cd := fun E τ h => onSld (x τ) (fun b o n _ w => onI (y τ) (fun _ i => onNat i (fun i => ifO (Nat.blt i n) (ifO (Nat.beq w z) (k E (putV τ d (.p b (Nat.add o (Nat.mul i z)))) h) .fail) .fail))) (optO (evIa z [x τ, y τ]) (fun v => k E (putV τ d v) h))
noncomputable def arK (g : IntKind → Int → Int → IV) (x y : Ac) (d : Pos) (k : Cd) : Cd := fun E τ h => onI (x τ) (fun kx a => onI (y τ) (fun ky b => ifO (kEq kx ky) (k E (putV τ d (g kx a b)) h) .fail))
noncomputable def notK (x : Ac) (d : Pos) (k : Cd) : Cd := fun E τ h => onB (x τ) (fun b => k E (putV τ d (.b (notB b))) h)
noncomputable def pickK (c x y : Ac) (d : Pos) (k : Cd) : Cd := fun E τ h => condV (c τ) (k E (putV τ d (x τ)) h) (k E (putV τ d (y τ)) h)
noncomputable def cviK (j : IntKind) (x : Ac) (d : Pos) (k : Cd) : Cd := fun E τ h => onI (x τ) (fun _ a => k E (putV τ d (.i j (wrapI j a))) h)
noncomputable def eqsS (n : Bool) (x y : Ac) (d : Pos) (k : Cd) : Cd := fun E τ h => onS (x τ) (fun a => onS (y τ) (fun b => k E (putV τ d (.b (@Bool.rec (fun _ => Bool) (seq a b) (notB (seq a b)) n))) h))
noncomputable def rK (f : List IV → Option IV) (xs : List Ac) (d : Pos) (k : Cd) : Cd := fun E τ h => optO (f (vals τ xs)) (fun v => k E (putV τ d v) h)
noncomputable def hK (f : Hp → List IV → Option IV) (xs : List Ac) (d : Pos) (k : Cd) : Cd := fun E τ h => optO (f h (vals τ xs)) (fun v => k E (putV τ d v) h)
noncomputable def eK (f : Hp → List IV → Option (IV × Hp)) (xs : List Ac) (d : Pos) (k : Cd) : Cd := fun E τ h => optE (f h (vals τ xs)) (fun v h => k E (putV τ d v) h)
noncomputable def uK (f : Hp → List IV → Option (IV × Hp)) (xs : List Ac) (k : Cd) : Cd := fun E τ h => optE (f h (vals τ xs)) (fun _ h => k E τ h)
noncomputable def stK (n : Nat) (x y : Ac) (k : Cd) : Cd := fun E τ h => onP (x τ) (fun b o => ifO (Nat.beq (lenN (cellsV (y τ))) n) (ifO (allAtoms (cellsV (y τ))) (onCellsW (getB h.t b) (fun m l => ifO (Nat.ble (Nat.add o n) m) (k E τ (setB h b (.cells m (ifL (Nat.beq n m) (cellsV (y τ)) (layAt o (cellsV (y τ)) l))))) .fail)) .fail) .fail)
noncomputable def alK (z : List IV) (n : Nat) (d : Pos) (k : Cd) : Cd := fun E τ h => k E (putV τ d (.p h.next 0)) (newB h (.cells n z))
noncomputable def boxK (x : Ac) (d : Pos) (k : Cd) : Cd := fun E τ h => k E (putV τ d (.p h.next 0)) (newB h (.cells (lenN (cellsV (x τ))) (cellsV (x τ))))
noncomputable def aK (f : Pos → List IV → Option (Blk × IV)) (xs : List Ac) (d : Pos) (k : Cd) : Cd := fun E τ h => optA (f h.next (vals τ xs)) (fun x v => k E (putV τ d v) (newB h x))
noncomputable def callK (f : Pos) (xs : List Ac) (d : Pos) (k : Cd) : Cd := fun E τ h => optE (E.cf f (vals τ xs) h) (fun v h => k E (putV τ d v) h)
noncomputable def dynK (f : Ac) (xs : List Ac) (d : Pos) (k : Cd) : Cd := fun E τ h => onF (f τ) (fun g caps => optE (E.cf g (app (vals τ xs) caps) h) (fun v h => k E (putV τ d v) h))
noncomputable def anyK (o : IOper) (k : Cd) : Cd := fun E τ h => optE (exOp E.cf o.op τ h) (fun v h => k E (putd τ o.dst v) h)
noncomputable def gK (t : Pos) (w : Bool) (d : Pos) (s : Cd → Cd) (k : Cd) : Cd := fun E τ h => guardV (gt t τ) w (s k E τ h) (k E (putV τ d undefd) h)
noncomputable def guK (t : Pos) (w : Bool) (s : Cd → Cd) (k : Cd) : Cd := fun E τ h => guardV (gt t τ) w (s k E τ h) (k E τ h)

noncomputable def intOp : BinOp → Option (IntKind → Int → Int → IV)
  | .add => some addV
  | .sub => some subV
  | .mul => some mulV
  | .eql => some eqlV
  | .neq => some neqV
  | .lss => some lssV
  | .leq => some leqV
  | .gtr => some gtrV
  | .geq => some geqV
  | _ => none

noncomputable def fastRd (o : IOper) (r : Rd) (xs : List Od) (d : Pos) : Cd → Cd :=
  match r, xs with
  | .mv, [x] => mvK (acc x) d
  | .ld1, [x] => ld1K (acc x) d
  | .ld n, [x] => ldK n (acc x) d
  | .fa n, [x] => faK n (acc x) d
  | .ext n, [x] => extK n (acc x) d
  | .lens, [x] => lensK (acc x) d
  | .nilck, [x] => nilckK (acc x) d
  | .ia z, [x, y] => iaK z (acc x) (acc y) d
  | .not, [x] => notK (acc x) d
  | .pick, [c, x, y] => pickK (acc c) (acc x) (acc y) d
  | .cvi j, [x] => cviK j (acc x) d
  | .bin op, [x, y] => (match intOp op with
    | some f => arK f (acc x) (acc y) d
    | none => rK (evBin op) (accs [x, y]) d)
  | .bins .eql, [x, y] => eqsS false (acc x) (acc y) d
  | .bins .neq, [x, y] => eqsS true (acc x) (acc y) d
  | .build z ps, xs => rK (evBuild z ps) (accs xs) d
  | .eqb n, xs => rK (evEqb n) (accs xs) d
  | .eqa n ks, xs => rK (evEqa n ks) (accs xs) d
  | .eqp n, xs => rK (evEqp n) (accs xs) d
  | .eqs n, xs => rK (evEqs n) (accs xs) d
  | .ixs, xs => rK evIxs (accs xs) d
  | .slc a b c, xs => rK (evSlc a b c) (accs xs) d
  | .lenstr, xs => rK evLenstr (accs xs) d
  | .look ag ks z ok, xs => hK (evLook ag ks z ok) (accs xs) d
  | _, _ => anyK o

noncomputable def fastS (o : IOper) : Cd → Cd :=
  match o.dst, o.op with
  | some d, .rd r xs => fastRd o r xs d
  | some d, .al (.alloc z) [] => alK z (lenN z) d
  | some d, .al .box [x] => boxK (acc x) d
  | some d, .al (.bsl a b c ps) xs => aK (alBsl a b c ps) (accs xs) d
  | some d, .al (.rows a b) xs => aK (alRows a b) (accs xs) d
  | none, .ef (.st n) [x, y] => stK n (acc x) (acc y)
  | some d, .ef (.app a b) xs => eK (efApp a b) (accs xs) d
  | some d, .call (.c (.f f [])) xs => callK f (accs xs) d
  | some d, .call f xs => dynK (acc f) (accs xs) d
  | _, _ => anyK o

noncomputable def fastK (o : IOper) (s : Cd → Cd) : Cd → Cd :=
  match o.guard with
  | none => s
  | some (t, w) => match o.dst with
    | some d => gK t w d s
    | none => guK t w s

-- regions whose order is open
noncomputable def seeK (E : Env) (s : Seen) : Env := ⟨E.N, E.cf, s :: E.looks, E.old⟩
noncomputable def ld1D (n bits : Nat) (x : Ac) (d : Pos) (k : Cd) : Cd := fun E τ h => onPd (x τ) (fun b o => onCells (getB h.t b) (fun _ l => optO (nth o l) (fun v => ifO (seenBefore bits .ld1 [.p b o] v E.old) (k (seeK E ⟨n, .ld1, [.p b o], v⟩) (putV τ d v) h) .fail))) (optO (evLd1 h [x τ]) (fun v => ifO (seenBefore bits .ld1 [x τ] v E.old) (k (seeK E ⟨n, .ld1, [x τ], v⟩) (putV τ d v) h) .fail))
noncomputable def rdD (n bits : Nat) (r : Rd) (xs : List Ac) (d : Pos) (k : Cd) : Cd := fun E τ h => optO (r.ev (vals τ xs) h) (fun v => ifO (seenBefore bits r (vals τ xs) v E.old) (k (seeK E ⟨n, r, vals τ xs, v⟩) (putV τ d v) h) .fail)
noncomputable def efD (n : Nat) (o : IOper) (k : Cd) : Cd := fun E τ h => optE (exOp E.cf o.op τ h) (fun v h' => ifO (seenAgain o.bits h' E.looks) (k ⟨E.N, E.cf, E.looks, (n, h) :: E.old⟩ (putd τ o.dst v) h') .fail)
def Env.d (E : Env) : DSt := ⟨E.looks, E.old⟩
def Env.at (E : Env) (d : DSt) : Env := ⟨E.N, E.cf, d.looks, d.old⟩
noncomputable def anyD (n : Nat) (o : IOper) (k : Cd) : Cd := fun E τ h => drawThen (fun d τ h => k (E.at d) τ h) n o E.d τ h (exOp E.cf o.op τ h)
noncomputable def drawS (n : Nat) (o : IOper) : Cd → Cd :=
  match o.op with
  | .rd r xs => (match o.dst with
    | some d => (match isR r with
      | true => (match r, xs with
        | .ld1, [x] => ld1D n o.bits (acc x) d
        | r, xs => rdD n o.bits r (accs xs) d)
      | false => fastS o)
    | none => anyD n o)
  | .al _ _ => fastS o
  | _ => efD n o
noncomputable def endD (k : Cd) : Cd := fun E τ h => k ⟨E.N, E.cf, [], []⟩ τ h
noncomputable def drawL : List IOper → Nat → Cd → Cd
  | [], _, k => endD k
  | o :: r, n, k => fastK o (drawS n o) (drawL r (n + 1) k)

noncomputable def condK (c : Ac) (a b k : Cd) : Cd := fun E τ h => thenF (k E) (condV (c τ) (a E τ h) (b E τ h))
noncomputable def blockK (id : Nat) (b k : Cd) : Cd := fun E τ h => thenF (k E) (blockF id (b E τ h))
noncomputable def loopK (b k : Cd) : Cd := fun E τ h => thenF (k E) (loopF (b E) E.N τ h)
def exitK (id : Nat) : Cd := fun _ τ h => .exit id τ h
def retK : Cd := fun _ τ h => .ret τ h
def badK : Cd := fun _ _ _ => .fail

noncomputable def zK (o : IOper) (k : Cd) : Cd := fun E τ h => optE (exOpz E.cf o τ h) (fun v h => k E (putd τ o.dst v) h)
noncomputable def fastZ (o : IOper) : Cd → Cd := match o.fz with
  | true => zK o
  | false => fastS o
noncomputable def fastL : List IOper → Cd → Cd
  | [], k => k
  | o :: r, k => fastK o (fastZ o) (fastL r k)
noncomputable def fast : ICode → Cd → Cd
  | .skip, k => k
  | .ops l, k => fastL l k
  | .draw l, k => drawL l 0 k
  | .seq a b, k => fast a (fast b k)
  | .cond c a b, k => condK (acc c) (fast a fin) (fast b fin) k
  | .block id b, k => blockK id (fast b fin) k
  | .loop b, k => loopK (fast b fin) k
  | .exit id, _ => exitK id
  | .ret, _ => retK
  | .bad, _ => badK

structure FFn where
  res : List IRes
  body : Cd
noncomputable def fastFn (fn : IFn) : FFn := ⟨fn.res, fast fn.body fin⟩

noncomputable def leaveF (rs : List IRes) (r : Out) : Option (IV × Hp) := @Out.rec (fun _ => List IRes → Option (IV × Hp))
  (fun τ h rs => @Option.rec (List IV) (fun _ => Hp → Option (IV × Hp)) (fun _ => none) (fun vs h => some (oneOf vs, h)) (resultsI τ h rs) h)
  (fun τ h rs => @Option.rec (List IV) (fun _ => Hp → Option (IV × Hp)) (fun _ => none) (fun vs h => some (oneOf vs, h)) (resultsI τ h rs) h) (fun _ _ _ _ => none) (fun _ => none) r rs
noncomputable def enterF (o : Option FFn) (N : Nat) (cf : CallF) (args : List IV) (h : Hp) : Option (IV × Hp) :=
  @Option.rec FFn (fun _ => Nat → CallF → List IV → Hp → Option (IV × Hp)) (fun _ _ _ _ => none) (fun fn N cf args h => leaveF fn.res (fn.body ⟨N, cf, [], []⟩ (frameOf args .h .nil) h)) o N cf args h
noncomputable def callFast (T : Pos → Option FFn) (N : Nat) (n : Nat) : CallF :=
  @Nat.rec (fun _ => CallF) (fun _ _ _ => none) (fun _ cf f args h => enterF (T f) N cf args h) n
end Go.Fg
/- The closures say what the ideal machine says: one operation. -/
namespace Go.Fg

theorem getV_eq : ∀ (t : PT IV) (p : Pos), getV t p = PT.get t p
  | .nil, p => rfl
  | .nd l v r, .h => rfl
  | .nd l v r, .o p => getV_eq l p
  | .nd l v r, .i p => getV_eq r p
theorem getB_eq : ∀ (t : PT Blk) (p : Pos), getB t p = PT.get t p
  | .nil, p => rfl
  | .nd l v r, .h => rfl
  | .nd l v r, .o p => getB_eq l p
  | .nd l v r, .i p => getB_eq r p
theorem putV_eq (t : PT IV) (p : Pos) (x : IV) : putV t p x = PT.put t p (some x) := rfl
theorem putB_eq (t : PT Blk) (p : Pos) (x : Option Blk) : putB t p x = PT.put t p x := rfl
theorem setB_eq (h : Hp) (b : Pos) (x : Blk) : setB h b x = h.set b x := rfl
theorem newB_eq (h : Hp) (x : Blk) : newB h x = h.new x := rfl
theorem acc_eq (o : Od) (τ : Fm) : acc o τ = o.ev τ := by
  cases o with
  | c v => rfl
  | t n =>
    show @Option.rec IV (fun _ => IV) undefd (fun v => v) (getV τ n) = Fm.at τ n
    rw [getV_eq]
    unfold Fm.at
    cases PT.get τ n <;> rfl
theorem vals_eq (τ : Fm) : ∀ l : List Od, vals τ (accs l) = evs τ l
  | [] => rfl
  | o :: l => by
    show acc o τ :: vals τ (accs l) = o.ev τ :: evs τ l
    rw [acc_eq, vals_eq]
theorem ifO_true (a b : Out) : ifO true a b = a := rfl
theorem ifO_false (a b : Out) : ifO false a b = b := rfl
theorem ifO_eq (c : Bool) (a b : Out) : ifO c a b = cond c a b := by cases c <;> rfl
theorem ifL_eq (c : Bool) (a b : List IV) : ifL c a b = cond c a b := by cases c <;> rfl
theorem cellsV_eq (v : IV) : cellsV v = v.cells := by cases v <;> rfl
theorem onCells_eq (o : Option Blk) (k : Nat → List IV → Out) : onCells o k = match o with
    | some (.cells n l) => k n l
    | some (.rc n l) => k n l
    | _ => .fail := by
  cases o with
  | none => rfl
  | some x => cases x <;> rfl
theorem onCellsW_eq (o : Option Blk) (k : Nat → List IV → Out) : onCellsW o k = match o with
    | some (.cells n l) => k n l
    | _ => .fail := by
  cases o with
  | none => rfl
  | some x => cases x <;> rfl
theorem optO_eq (o : Option IV) (k : IV → Out) : optO o k = match o with | some v => k v | none => .fail := by cases o <;> rfl
theorem optE_eq (o : Option (IV × Hp)) (k : IV → Hp → Out) : optE o k = match o with | some (v, h) => k v h | none => .fail := by cases o <;> rfl
theorem optA_eq (o : Option (Blk × IV)) (k : Blk → IV → Out) : optA o k = match o with | some (x, v) => k x v | none => .fail := by cases o <;> rfl

/-- What one operation and all that follows come to. -/
noncomputable def after (k : Cd) (o : IOper) : Cd := fun E τ h => opThen (k E) τ o.dst (exOp E.cf o.op τ h)

theorem after_rd {o : IOper} {r : Rd} {xs : List Od} {d : Pos} (h1 : o.op = .rd r xs) (h2 : o.dst = some d) (k : Cd) (E : Env) (τ : Fm) (h : Hp) : after k o E τ h = optO (r.ev (evs τ xs) h) (fun v => k E (putV τ d v) h) := by
  unfold after
  rw [h1, h2]
  show opThen (k E) τ (some d) (exRd r (evs τ xs) h) = _
  unfold exRd
  cases r.ev (evs τ xs) h <;> rfl

theorem anyK_eq (o : IOper) (k : Cd) (E : Env) (τ : Fm) (h : Hp) : anyK o k E τ h = after k o E τ h := by
  unfold anyK after
  cases exOp E.cf o.op τ h with
  | none => rfl
  | some x => rfl

section
variable (x y c : Od) (d : Pos) (k : Cd) (E : Env) (τ : Fm) (h : Hp)
theorem mvK_eq : mvK (acc x) d k E τ h = optO (Rd.ev .mv (evs τ [x]) h) (fun v => k E (putV τ d v) h) := by
  unfold mvK; rw [acc_eq]; rfl
theorem faK_eq (n : Nat) : faK n (acc x) d k E τ h = optO (Rd.ev (.fa n) (evs τ [x]) h) (fun v => k E (putV τ d v) h) := by
  unfold faK; rw [acc_eq]; rw [evs_cons, evs_nil]; generalize x.ev τ = v; cases v <;> rfl
theorem ld1K_eq : ld1K (acc x) d k E τ h = optO (Rd.ev .ld1 (evs τ [x]) h) (fun v => k E (putV τ d v) h) := by
  unfold ld1K; rw [acc_eq]; rw [evs_cons, evs_nil]; generalize x.ev τ = v
  cases v <;> try rfl
  rename_i b o
  show onCells (getB h.t b) _ = optO (h.read1 b o) _
  rw [getB_eq, onCells_eq]
  unfold Hp.read1 Hp.cells cellsOf Hp.get
  cases PT.get h.t b with
  | none => rfl
  | some z => cases z <;> rfl
theorem ldK_eq (n : Nat) : ldK n (acc x) d k E τ h = optO (Rd.ev (.ld n) (evs τ [x]) h) (fun v => k E (putV τ d v) h) := by
  unfold ldK; rw [acc_eq]; rw [evs_cons, evs_nil]; generalize x.ev τ = v
  cases v <;> try rfl
  rename_i b o
  show onCells (getB h.t b) _ = optO (match h.read b o n with | some l => some (.agg l) | none => none) _
  rw [getB_eq, onCells_eq]
  unfold Hp.read Hp.cells cellsOf Hp.get
  cases PT.get h.t b with
  | none => rfl
  | some z =>
    cases z with
    | map _ _ => rfl
    | rm _ _ => rfl
    | cells m l =>
      simp only [ifO_eq, ifL_eq]
      show cond (Nat.ble (o + n) m) _ _ = _
      cases Nat.ble (o + n) m with
      | false => rfl
      | true => cases Nat.beq n m <;> rfl
    | rc m l =>
      simp only [ifO_eq, ifL_eq]
      show cond (Nat.ble (o + n) m) _ _ = _
      cases Nat.ble (o + n) m with
      | false => rfl
      | true => cases Nat.beq n m <;> rfl
theorem extK_eq (n : Nat) : extK n (acc x) d k E τ h = optO (Rd.ev (.ext n) (evs τ [x]) h) (fun v => k E (putV τ d v) h) := by
  unfold extK; rw [acc_eq]; rw [evs_cons, evs_nil]; generalize x.ev τ = v; cases v <;> rfl
theorem lensK_eq : lensK (acc x) d k E τ h = optO (Rd.ev .lens (evs τ [x]) h) (fun v => k E (putV τ d v) h) := by
  unfold lensK; rw [acc_eq]; rw [evs_cons, evs_nil]; generalize x.ev τ = v; cases v <;> rfl
theorem nilckK_eq : nilckK (acc x) d k E τ h = optO (Rd.ev .nilck (evs τ [x]) h) (fun v => k E (putV τ d v) h) := by
  unfold nilckK; rw [acc_eq]; rw [evs_cons, evs_nil]; generalize x.ev τ = v; cases v <;> rfl
theorem notK_eq : notK (acc x) d k E τ h = optO (Rd.ev .not (evs τ [x]) h) (fun v => k E (putV τ d v) h) := by
  unfold notK; rw [acc_eq]; rw [evs_cons, evs_nil]; generalize x.ev τ = v; cases v <;> try rfl
  rename_i b; cases b <;> rfl
theorem cviK_eq (j : IntKind) : cviK j (acc x) d k E τ h = optO (Rd.ev (.cvi j) (evs τ [x]) h) (fun v => k E (putV τ d v) h) := by
  unfold cviK; rw [acc_eq]; rw [evs_cons, evs_nil]; generalize x.ev τ = v; cases v <;> rfl
theorem pickK_eq : pickK (acc c) (acc x) (acc y) d k E τ h = optO (Rd.ev .pick (evs τ [c, x, y]) h) (fun v => k E (putV τ d v) h) := by
  unfold pickK; rw [acc_eq, acc_eq, acc_eq]; rw [evs_cons, evs_cons, evs_cons, evs_nil]; generalize c.ev τ = v; cases v <;> try rfl
  rename_i b; cases b <;> rfl
theorem iaK_eq (z : Nat) : iaK z (acc x) (acc y) d k E τ h = optO (Rd.ev (.ia z) (evs τ [x, y]) h) (fun v => k E (putV τ d v) h) := by
  unfold iaK; rw [acc_eq, acc_eq]; rw [evs_cons, evs_cons, evs_nil]; generalize x.ev τ = v; generalize y.ev τ = u
  cases v <;> try rfl
  cases u <;> try rfl
  rename_i b o n c w kd i
  cases i with
  | negSucc i => rfl
  | ofNat i =>
    show ifO (Nat.blt i n) (ifO (Nat.beq w z) _ _) _ = optO (cond (Nat.blt i n && Nat.beq w z) _ none) _
    cases Nat.blt i n <;> cases Nat.beq w z <;> rfl
theorem eqsS_eq (n : Bool) : eqsS n (acc x) (acc y) d k E τ h = optO (Rd.ev (.bins (cond n .neq .eql)) (evs τ [x, y]) h) (fun v => k E (putV τ d v) h) := by
  unfold eqsS; rw [acc_eq, acc_eq]; rw [evs_cons, evs_cons, evs_nil]; generalize x.ev τ = v; generalize y.ev τ = u
  cases v <;> try rfl
  cases u <;> cases n <;> try rfl
  rename_i a b
  show k E (putV τ d (.b (notB (seq a b)))) h = k E (putV τ d (.b (!(seq a b)))) h
  cases seq a b <;> rfl
theorem arK_eq {op : BinOp} {f : IntKind → Int → Int → IV} (hf : intOp op = some f) : arK f (acc x) (acc y) d k E τ h = optO (Rd.ev (.bin op) (evs τ [x, y]) h) (fun v => k E (putV τ d v) h) := by
  unfold arK; rw [acc_eq, acc_eq]; rw [evs_cons, evs_cons, evs_nil]; generalize x.ev τ = v; generalize y.ev τ = u
  cases v <;> try rfl
  cases u <;> try (cases op <;> first | rfl | (cases hf; done))
  rename_i kx a ky b
  show ifO (kEq kx ky) _ _ = _
  cases op <;> first | (cases hf; done) | skip
  all_goals
    injection hf with hf
    subst hf
    show _ = optO (cond (kEq kx ky) _ none) _
    cases kEq kx ky <;> rfl
theorem rK_eq (f : List IV → Option IV) (xs : List Od) : rK f (accs xs) d k E τ h = optO (f (evs τ xs)) (fun v => k E (putV τ d v) h) := by
  unfold rK; rw [vals_eq]
theorem hK_eq (f : Hp → List IV → Option IV) (xs : List Od) : hK f (accs xs) d k E τ h = optO (f h (evs τ xs)) (fun v => k E (putV τ d v) h) := by
  unfold hK; rw [vals_eq]
end

theorem fastRd_eq {o : IOper} {r : Rd} {xs : List Od} {d : Pos} (h1 : o.op = .rd r xs) (h2 : o.dst = some d) (k : Cd) (E : Env) (τ : Fm) (h : Hp) : fastRd o r xs d k E τ h = after k o E τ h := by
  rw [after_rd h1 h2]
  unfold fastRd
  split
  · exact mvK_eq _ _ _ _ _ _
  · exact ld1K_eq _ _ _ _ _ _
  · exact ldK_eq _ _ _ _ _ _ _
  · exact faK_eq _ _ _ _ _ _ _
  · exact extK_eq _ _ _ _ _ _ _
  · exact lensK_eq _ _ _ _ _ _
  · exact nilckK_eq _ _ _ _ _ _
  · exact iaK_eq _ _ _ _ _ _ _ _
  · exact notK_eq _ _ _ _ _ _
  · exact pickK_eq _ _ _ _ _ _ _ _
  · exact cviK_eq _ _ _ _ _ _ _
  · rename_i op x y
    cases hf : intOp op with
    | some f => exact arK_eq _ _ _ _ _ _ _ hf
    | none => exact rK_eq _ _ _ _ _ _ _
  · exact eqsS_eq _ _ _ _ _ _ _ false
  · exact eqsS_eq _ _ _ _ _ _ _ true
  · exact rK_eq _ _ _ _ _ _ _
  · exact rK_eq _ _ _ _ _ _ _
  · exact rK_eq _ _ _ _ _ _ _
  · exact rK_eq _ _ _ _ _ _ _
  · exact rK_eq _ _ _ _ _ _ _
  · exact rK_eq _ _ _ _ _ _ _
  · exact rK_eq _ _ _ _ _ _ _
  · exact rK_eq _ _ _ _ _ _ _
  · exact hK_eq _ _ _ _ _ _ _
  · rw [anyK_eq, after_rd h1 h2]

theorem after_al {o : IOper} {a : Al} {xs : List Od} {d : Pos} (h1 : o.op = .al a xs) (h2 : o.dst = some d) (k : Cd) (E : Env) (τ : Fm) (h : Hp) : after k o E τ h = optA (a.ev (evs τ xs) h.next) (fun x v => k E (putV τ d v) (newB h x)) := by
  unfold after
  rw [h1, h2]
  show opThen (k E) τ (some d) (exAl a (evs τ xs) h) = _
  unfold exAl
  cases a.ev (evs τ xs) h.next <;> rfl

theorem stK_eq {o : IOper} {n : Nat} {x y : Od} (h1 : o.op = .ef (.st n) [x, y]) (h2 : o.dst = none) (k : Cd) (E : Env) (τ : Fm) (h : Hp) : stK n (acc x) (acc y) k E τ h = after k o E τ h := by
  unfold after
  rw [h1, h2]
  show _ = opThen (k E) τ none (efSt n h [x.ev τ, y.ev τ])
  unfold stK
  rw [acc_eq, acc_eq]
  generalize x.ev τ = v
  generalize y.ev τ = u
  cases v <;> try rfl
  rename_i b ofs
  show ifO (Nat.beq (lenN (cellsV u)) n) (ifO (allAtoms (cellsV u)) (onCellsW (getB h.t b) _) .fail) .fail = opThen (k E) τ none (cond (cond (Nat.beq (lenN u.cells) n) (allAtoms u.cells) false) (match h.write b ofs n u.cells with
    | some h' => some (undefd, h')
    | none => none) none)
  rw [cellsV_eq]
  cases Nat.beq (lenN u.cells) n with
  | false => rfl
  | true =>
    cases allAtoms u.cells with
    | false => rfl
    | true =>
      show onCellsW (getB h.t b) _ = opThen (k E) τ none (match h.write b ofs n u.cells with
        | some h' => some (undefd, h')
        | none => none)
      rw [getB_eq, onCellsW_eq]
      unfold Hp.write cellsW Hp.get
      cases PT.get h.t b with
      | none => rfl
      | some z =>
        cases z with
        | map _ _ => rfl
        | rm _ _ => rfl
        | rc _ _ => rfl
        | cells m l =>
          simp only [ifO_eq, ifL_eq]
          show cond (Nat.ble (ofs + n) m) _ _ = _
          cases Nat.ble (ofs + n) m with
          | false => rfl
          | true => cases Nat.beq n m <;> rfl

theorem fastS_eq (o : IOper) : fastS o = fun k E τ h => after k o E τ h := by
  unfold fastS
  split <;> funext k E τ h
  · rename_i d r xs h2 h1
    exact fastRd_eq h1 h2 k E τ h
  · rename_i d z h2 h1
    rw [after_al h1 h2]
    rfl
  · rename_i d x h2 h1
    rw [after_al h1 h2]
    unfold boxK
    rw [acc_eq, cellsV_eq]
    rfl
  · rename_i d a b c ps xs h2 h1
    rw [after_al h1 h2]
    unfold aK
    rw [vals_eq]
    rfl
  · rename_i d a b xs h2 h1
    rw [after_al h1 h2]
    unfold aK
    rw [vals_eq]
    rfl
  · rename_i n x y h2 h1
    exact stK_eq h1 h2 k E τ h
  · rename_i d a b xs h2 h1
    unfold after eK
    rw [h1, h2, vals_eq]
    show _ = opThen (k E) τ (some d) (efApp a b h (evs τ xs))
    cases efApp a b h (evs τ xs) with
    | none => rfl
    | some x => rfl
  · rename_i d f xs h2 h1
    unfold after callK
    rw [h1, h2, vals_eq]
    show _ = opThen (k E) τ (some d) (E.cf f (evs τ xs ++ []) h)
    rw [List.append_nil]
    cases E.cf f (evs τ xs) h with
    | none => rfl
    | some x => rfl
  · rename_i d f xs _ h2 h1
    unfold after dynK
    rw [h1, h2, vals_eq, acc_eq]
    show _ = opThen (k E) τ (some d) (exCall E.cf (f.ev τ) (evs τ xs) h)
    unfold exCall
    generalize f.ev τ = v
    cases v <;> try rfl
    rename_i g caps
    show optE (E.cf g (app (evs τ xs) caps) h) _ = opThen (k E) τ (some d) (E.cf g (evs τ xs ++ caps) h)
    rw [app_eq]
    cases E.cf g (evs τ xs ++ caps) h with
    | none => rfl
    | some x => rfl
  · exact anyK_eq o k E τ h
end Go.Fg
/- The closures say what the ideal machine says. -/
namespace Go.Fg

theorem guardV_eq (v : IV) (w : Bool) (a b : Out) : guardV v w a b = cond (wantV w v) a b := by
  cases v <;> try rfl
  rename_i x; cases x <;> cases w <;> rfl
theorem gt_eq (t : Pos) (τ : Fm) : gt t τ = Fm.at τ t := acc_eq (.t t) τ
theorem fastK_eq (o : IOper) (s : Cd → Cd) (k : Cd) (E : Env) (τ : Fm) (h : Hp) : fastK o s k E τ h = cond (wantedI o.guard τ) (s k E τ h) (k E (putd τ o.dst undefd) h) := by
  unfold fastK
  cases hg : o.guard with
  | none => rfl
  | some x =>
    obtain ⟨t, w⟩ := x
    cases hd : o.dst with
    | none =>
      show guardV (gt t τ) w _ _ = cond (wantV w (Fm.at τ t)) _ _
      rw [guardV_eq, gt_eq]
      rfl
    | some d =>
      show guardV (gt t τ) w _ _ = cond (wantV w (Fm.at τ t)) _ _
      rw [guardV_eq, gt_eq]
      rfl

theorem thenF_eq (k : Fm → Hp → Out) (r : Out) : thenF k r = thenI k r := by cases r <;> rfl
theorem blockF_eq (id : Nat) (r : Out) : blockF id r = blockI id r := by
  cases r <;> try rfl
  rename_i k τ h
  show ifO (Nat.beq k id) _ _ = cond (Nat.beq k id) _ _
  rw [ifO_eq]
theorem loopF_eq (body : Fm → Hp → Out) : ∀ (n : Nat) (τ : Fm) (h : Hp), loopF body n τ h = loopN body n τ h
  | 0, _, _ => rfl
  | n + 1, τ, h => by
    show thenF (loopF body n) (body τ h) = thenI (loopN body n) (body τ h)
    rw [thenF_eq, show loopF body n = loopN body n from funext fun τ => funext fun h => loopF_eq body n τ h]
theorem condV_eq (v : IV) (a b : Out) : condV v a b = condI a b v := by
  cases v <;> try rfl
  rename_i x; cases x <;> rfl
theorem thenI_thenI (k g : Fm → Hp → Out) (r : Out) : thenI (fun τ h => thenI k (g τ h)) r = thenI k (thenI g r) := by cases r <;> rfl
theorem thenI_fin (E : Env) (r : Out) : thenI (fin E) r = r := by cases r <;> rfl
theorem thenI_opThen (k : Fm → Hp → Out) (g : Fm → Hp → Out) (τ : Fm) (d : Option Pos) (x : Option (IV × Hp)) : opThen (fun τ h => thenI k (g τ h)) τ d x = thenI k (opThen g τ d x) := by
  cases x with
  | none => rfl
  | some x => rfl

theorem fastZ_eq (o : IOper) : fastZ o = fun k E τ h => opThen (k E) τ o.dst (exOpz E.cf o τ h) := by
  unfold fastZ
  split
  · funext k E τ h
    show optE (exOpz E.cf o τ h) _ = _
    rw [optE_eq]
    cases exOpz E.cf o τ h <;> rfl
  · rename_i hz
    rw [fastS_eq]
    funext k E τ h
    unfold after exOpz
    rw [hz]; rfl
theorem fastL_eq (k : Cd) (E : Env) : ∀ (l : List IOper) (τ : Fm) (h : Hp), fastL l k E τ h = thenI (k E) (exOps E.cf l τ h)
  | [], τ, h => rfl
  | o :: r, τ, h => by
    show fastK o (fastZ o) (fastL r k) E τ h = _
    have ih : fastL r k E = fun τ h => thenI (k E) (exOps E.cf r τ h) := funext fun τ => funext fun h => fastL_eq k E r τ h
    rw [fastK_eq, fastZ_eq]
    show cond (wantedI o.guard τ) (opThen (fastL r k E) τ o.dst (exOpz E.cf o τ h)) (fastL r k E (putd τ o.dst undefd) h) = thenI (k E) (cond (wantedI o.guard τ) (opThen (exOps E.cf r) τ o.dst (exOpz E.cf o τ h)) (exOps E.cf r (putd τ o.dst undefd) h))
    rw [ih, thenI_opThen]
    cases wantedI o.guard τ <;> rfl

def Env.clean (E : Env) : Env := ⟨E.N, E.cf, [], []⟩

theorem efD_eq (n : Nat) (o : IOper) (k : Cd) (E : Env) (τ : Fm) (h : Hp) (ho : ∀ v h' d, drawSt n o.bits o.op τ h v h' d = cond (seenAgain o.bits h' d.looks) (some ⟨d.looks, (n, h) :: d.old⟩) none) :
    efD n o k E τ h = drawThen (fun d τ h => k (E.at d) τ h) n o E.d τ h (exOp E.cf o.op τ h) := by
  unfold efD drawThen
  rw [optE_eq]
  cases exOp E.cf o.op τ h with
  | none => rfl
  | some x =>
    obtain ⟨v, h'⟩ := x
    simp only []
    rw [ho, ifO_eq]
    have e : E.d.looks = E.looks := rfl
    rw [e]
    cases seenAgain o.bits h' E.looks <;> rfl

theorem plainD_eq (n : Nat) (o : IOper) (k : Cd) (E : Env) (τ : Fm) (h : Hp) (ho : ∀ v h' d, drawSt n o.bits o.op τ h v h' d = some d) :
    fastS o k E τ h = drawThen (fun d τ h => k (E.at d) τ h) n o E.d τ h (exOp E.cf o.op τ h) := by
  rw [fastS_eq]
  show opThen (k E) τ o.dst (exOp E.cf o.op τ h) = _
  unfold drawThen
  cases exOp E.cf o.op τ h with
  | none => rfl
  | some x =>
    obtain ⟨v, h'⟩ := x
    simp only [ho]
    rfl

theorem rdD_eq {n : Nat} {o : IOper} {r : Rd} {xs : List Od} {d : Pos} (h1 : o.op = .rd r xs) (h2 : o.dst = some d) (hr : isR r = true) (k : Cd) (E : Env) (τ : Fm) (h : Hp) :
    rdD n o.bits r (accs xs) d k E τ h = drawThen (fun d τ h => k (E.at d) τ h) n o E.d τ h (exOp E.cf o.op τ h) := by
  unfold rdD drawThen
  rw [h1, h2, vals_eq, optO_eq]
  have e0 : exOp E.cf (.rd r xs) τ h = exRd r (evs τ xs) h := rfl
  rw [e0]
  unfold exRd
  cases r.ev (evs τ xs) h with
  | none => rfl
  | some v =>
    simp only [ifO_eq]
    have e1 : drawSt n o.bits (.rd r xs) τ h v h E.d = cond (seenBefore o.bits r (evs τ xs) v E.old) (some ⟨⟨n, r, evs τ xs, v⟩ :: E.looks, E.old⟩) none := by
      show drawRd n o.bits r (evs τ xs) v E.d = _
      unfold drawRd
      rw [hr]
      rfl
    rw [e1]
    cases seenBefore o.bits r (evs τ xs) v E.old <;> rfl

theorem ld1D_eq {n bits : Nat} {x : Od} {d : Pos} (k : Cd) (E : Env) (τ : Fm) (h : Hp) : ld1D n bits (acc x) d k E τ h = rdD n bits .ld1 (accs [x]) d k E τ h := by
  unfold ld1D rdD
  rw [vals_eq, acc_eq, evs_cons, evs_nil]
  generalize x.ev τ = v
  cases v <;> try rfl
  rename_i b o
  show onCells (getB h.t b) _ = optO (h.read1 b o) _
  rw [getB_eq, onCells_eq]
  unfold Hp.read1 Hp.cells cellsOf Hp.get
  cases PT.get h.t b with
  | none => rfl
  | some z => cases z <;> rfl


theorem drawS_eq (n : Nat) (o : IOper) (k : Cd) (E : Env) (τ : Fm) (h : Hp) : drawS n o k E τ h = drawThen (fun d τ h => k (E.at d) τ h) n o E.d τ h (exOp E.cf o.op τ h) := by
  have main : drawS n o = fun k E τ h => drawThen (fun d τ h => k (E.at d) τ h) n o E.d τ h (exOp E.cf o.op τ h) := by
    unfold drawS
    split
    · rename_i r xs hop
      split
      · rename_i d hd
        split
        · rename_i hr
          split
          · rename_i x
            funext k E τ h
            rw [ld1D_eq]
            exact rdD_eq hop hd hr k E τ h
          · funext k E τ h
            exact rdD_eq hop hd hr k E τ h
        · rename_i hr
          funext k E τ h
          exact plainD_eq n o k E τ h fun v h' d => by
            rw [hop]
            show drawRd n o.bits r (evs τ xs) v d = some d
            unfold drawRd
            rw [hr]
            rfl
      · rfl
    · rename_i a xs hop
      funext k E τ h
      exact plainD_eq n o k E τ h fun v h' d => by rw [hop]; rfl
    · rename_i h1 h2
      funext k E τ h
      refine efD_eq n o k E τ h fun v h' d => ?_
      unfold drawSt
      split
      · rename_i e; exact absurd e (h1 _ _)
      · rename_i e; exact absurd e (h2 _ _)
      · rfl
  rw [main]

theorem drawL_eq (k : Cd) : ∀ (l : List IOper) (n : Nat) (E : Env) (τ : Fm) (h : Hp), drawL l n k E τ h = thenI (k E.clean) (exDraw E.cf l n E.d τ h)
  | [], n, E, τ, h => rfl
  | o :: r, n, E, τ, h => by
    show fastK o (drawS n o) (drawL r (n + 1) k) E τ h = _
    rw [fastK_eq, drawS_eq]
    have e : exDraw E.cf (o :: r) n E.d τ h = cond (wantedI o.guard τ) (drawThen (exDraw E.cf r (n + 1)) n o E.d τ h (exOp E.cf o.op τ h)) (exDraw E.cf r (n + 1) E.d (putd τ o.dst undefd) h) := rfl
    rw [e, drawL_eq k r (n + 1) E]
    cases wantedI o.guard τ with
    | false => rfl
    | true =>
      show drawThen _ n o E.d τ h (exOp E.cf o.op τ h) = thenI (k E.clean) (drawThen (exDraw E.cf r (n + 1)) n o E.d τ h (exOp E.cf o.op τ h))
      unfold drawThen
      cases exOp E.cf o.op τ h with
      | none => rfl
      | some x =>
        obtain ⟨v, h'⟩ := x
        simp only []
        cases drawSt n o.bits o.op τ h v h' E.d with
        | none => rfl
        | some d' => exact drawL_eq k r (n + 1) (E.at d') _ _
end Go.Fg
/- The closures, whole. -/
namespace Go.Fg

theorem fast_eq : ∀ (c : ICode) (k : Cd) (E : Env) (hE : E.clean = E) (τ : Fm) (h : Hp), fast c k E τ h = thenI (k E) (sem E.N E.cf c τ h)
  | .skip, k, E, hE, τ, h => rfl
  | .ops l, k, E, hE, τ, h => fastL_eq k E l τ h
  | .draw l, k, E, hE, τ, h => by
    show drawL l 0 k E τ h = _
    rw [drawL_eq, hE]
    have : E.d = ⟨[], []⟩ := by rw [← hE]; rfl
    rw [this]
    rfl
  | .seq a b, k, E, hE, τ, h => by
    show fast a (fast b k) E τ h = _
    rw [fast_eq a (fast b k) E hE]
    have : fast b k E = fun τ h => thenI (k E) (sem E.N E.cf b τ h) := funext fun τ => funext fun h => fast_eq b k E hE τ h
    rw [this, thenI_thenI]
    rfl
  | .cond c a b, k, E, hE, τ, h => by
    show thenF (k E) (condV (acc c τ) (fast a fin E τ h) (fast b fin E τ h)) = _
    rw [thenF_eq, condV_eq, acc_eq, fast_eq a fin E hE, fast_eq b fin E hE, thenI_fin, thenI_fin]
    rfl
  | .block id b, k, E, hE, τ, h => by
    show thenF (k E) (blockF id (fast b fin E τ h)) = _
    rw [thenF_eq, blockF_eq, fast_eq b fin E hE, thenI_fin]
    rfl
  | .loop b, k, E, hE, τ, h => by
    show thenF (k E) (loopF (fast b fin E) E.N τ h) = _
    have : fast b fin E = sem E.N E.cf b := funext fun τ => funext fun h => by rw [fast_eq b fin E hE, thenI_fin]
    rw [thenF_eq, loopF_eq, this]
    rfl
  | .exit id, k, E, hE, τ, h => rfl
  | .ret, k, E, hE, τ, h => rfl
  | .bad, k, E, hE, τ, h => rfl

theorem leaveF_eq (rs : List IRes) (r : Out) : leaveF rs r = leaveI rs r := by
  cases r with
  | nrm τ h =>
    show @Option.rec (List IV) (fun _ => Hp → Option (IV × Hp)) (fun _ => none) (fun vs h => some (oneOf vs, h)) (resultsI τ h rs) h = _
    unfold leaveI
    simp only []
    cases resultsI τ h rs <;> rfl
  | ret τ h =>
    show @Option.rec (List IV) (fun _ => Hp → Option (IV × Hp)) (fun _ => none) (fun vs h => some (oneOf vs, h)) (resultsI τ h rs) h = _
    unfold leaveI
    simp only []
    cases resultsI τ h rs <;> rfl
  | exit _ _ _ => rfl
  | fail => rfl

theorem enterF_eq (fn : IFn) (N : Nat) (cf : CallF) (args : List IV) (h : Hp) : enterF (some (fastFn fn)) N cf args h = callFn N cf fn args h := by
  show leaveF fn.res (fast fn.body fin ⟨N, cf, [], []⟩ (frameOf args .h .nil) h) = _
  rw [leaveF_eq, fast_eq fn.body fin ⟨N, cf, [], []⟩ rfl, thenI_fin]
  rfl

/-- The table of closures is that of the functions. -/
def Fits (P : Program) (Z : Nat → Oper → Bool) (T : Pos → Option FFn) : Prop := ∀ p f, T p = some f → ∃ n fn, n < 1000000 ∧ p = pos n ∧ compFn P Z n = some fn ∧ f = fastFn fn

theorem callFast_zero (T : Pos → Option FFn) (N : Nat) (f : Pos) (args : List IV) (h : Hp) : callFast T N 0 f args h = none := rfl
theorem callFast_succ (T : Pos → Option FFn) (N n : Nat) (f : Pos) (args : List IV) (h : Hp) : callFast T N (n + 1) f args h = enterF (T f) N (callFast T N n) args h := rfl

section
variable {P : Program} {Z : Nat → Oper → Bool} {T : Pos → Option FFn}
theorem callFast_up (hT : Fits P Z T) (N : Nat) : ∀ n, CUp (callFast T N n)
  | 0 => fun g args h v h' e => by rw [callFast_zero] at e; cases e
  | n + 1 => fun g args h v h' e => by
    rw [callFast_succ] at e
    cases ht : T g with
    | none => rw [ht] at e; cases e
    | some f =>
      obtain ⟨m, fn, _, _, _, rfl⟩ := hT g f ht
      rw [ht, enterF_eq] at e
      exact callFn_up (callFast_up hT N n) e

/-- THE CLOSURES ARE SOUND. -/
theorem callFast_sound (hdr : ∀ cf, CSim P cf → CUp cf → DrawSound P cf) (hT : Fits P Z T) (N : Nat) : ∀ n, CSim P (callFast T N n)
  | 0 => fun g args h v h' _ e => by rw [callFast_zero] at e; cases e
  | n + 1 => fun g args h v h' hg e => by
    rw [callFast_succ] at e
    cases ht : T (pos g) with
    | none => rw [ht] at e; cases e
    | some f =>
      obtain ⟨m, fn, h1, h2, h3, rfl⟩ := hT _ f ht
      obtain rfl := pos_inj hg h1 h2
      rw [ht, enterF_eq] at e
      have h4 := callFast_sound hdr hT N n
      have h5 := callFast_up hT N n
      exact callFn_sound h4 h5 (hdr _ h4 h5) h3 e
end
end Go.Fg
/- The ideal machine: what a closed run says of the model. -/
namespace Go.Fg

theorem Fin.grown {ι ι' : Emb} {H H' : Hp} {w w' : World} (f : Fin ι H w ι' H' w') (hn : ∀ b L, ι b = some L → H.get b = none) : RowKit.Grown w w' := by
  refine ⟨⟨f.out.2.1, f.out.2.2.1, fun i hi => ?_⟩, f.out.2.2.2, f.size⟩
  rw [f.frame i hi fun b L h1 h2 => absurd (hn b L h1) h2]
  generalize w.heap[i]? = o
  cases o with
  | none => rfl
  | some o => cases o <;> simp

/-- A run of the closures tells. -/
theorem fast_tells {P : Program} {Z : Nat → Oper → Bool} {T : Pos → Option FFn} (hm : P.follows .mixedOrders = true) (hT : Fits P Z T) {N n k : Nat} (hk : k < 1000000) {args : List IV} {r u : IV} {h2 h3 : Hp} (e : callFast T N n (pos k) args Hp.empty = some (r, h2)) (e3 : frz h2 r = some (u, h3)) : Tells P k args u :=
  tells_of (callFast_sound (draw_sound hm) hT N n) hk e e3
end Go.Fg
/- The ideal machine: a law without input. -/
namespace Go.Fg

/-- A function without parameters that tells 'true' returns true in every world. -/
theorem closed_true {P : Program} {k : Nat} (h : Tells P k [] (.b true)) (w : World) : Calls P k #[] w fun e w' => e = .returned (.bool true) ∧ RowKit.Grown w w' := by
  have hr : HR (Emb.bare ⟨fun _ => none, fun _ _ _ => False⟩) Hp.empty w :=
    { pro := fun x r sh h => h.elim
      apart := fun b x L y r sh hb => by rw [Hp.get_empty] at hb; cases hb
      blk := fun b x L hb => by rw [Hp.get_empty] at hb; cases hb
      inj := fun b₁ b₂ L₁ L₂ hb => absurd (Hp.get_empty b₁) hb
      lt := fun b L hb => by cases hb
      low := fun b hb => absurd (Hp.get_empty b) hb }
  refine (h.2 ⟨fun _ => none, fun _ _ _ => False⟩ w #[] .nil hr).mono fun e w' hq => ?_
  obtain ⟨v', ι', h', rfl, hv, hf⟩ := hq
  cases hv
  exact ⟨rfl, hf.grown fun b L hb => by cases hb⟩
end Go.Fg
/- The ideal machine: what is read of the arguments is held by contents. -/
namespace Go.Fg
open Go.WideShapes

/-- All blocks of a world, whatever one may say of what is in them. -/
def uni (w : World) : Emb := ⟨fun _ => none, fun x r sh => ∃ S : IB → Nat → Nat → Prop, (∀ x r sh, S x r sh → BI ⟨fun _ => none, S⟩ x r sh w) ∧ S x r sh⟩
theorem uni_pro {w : World} {x : IB} {r sh : Nat} (h : (uni w).im x r sh) : BI (uni w) x r sh w := by
  obtain ⟨S, hS, hx⟩ := h
  exact (hS x r sh hx).mono (ι := ⟨fun _ => none, S⟩) (ι' := uni w) ⟨fun _ _ e => (by cases e), fun x r sh h => ⟨S, hS, h⟩⟩ rfl
theorem uni_in {w : World} {x : IB} {r sh : Nat} (h : BI (uni w) x r sh w) : (uni w).im x r sh := by
  have up : (uni w).le ⟨fun _ => none, fun x' r' sh' => (uni w).im x' r' sh' ∨ (x' = x ∧ r' = r ∧ sh' = sh)⟩ := ⟨fun _ _ e => (by cases e), fun _ _ _ h => .inl h⟩
  refine ⟨fun x' r' sh' => (uni w).im x' r' sh' ∨ (x' = x ∧ r' = r ∧ sh' = sh), fun x' r' sh' h' => ?_, .inr ⟨rfl, rfl, rfl⟩⟩
  rcases h' with h' | ⟨rfl, rfl, rfl⟩
  · exact (uni_pro h').mono up rfl
  · exact h.mono up rfl
theorem uni_hr (w : World) : HR (uni w) Hp.empty w where
  pro x r sh h := uni_pro h
  apart b x L y r sh hb := by rw [Hp.get_empty] at hb; cases hb
  blk b x L hb := by rw [Hp.get_empty] at hb; cases hb
  inj b₁ b₂ L₁ L₂ hb := absurd (Hp.get_empty b₁) hb
  lt b L hb := by cases hb
  low b hb := absurd (Hp.get_empty b) hb

/-- What is read at a type is what 'c' makes of one of 'ok'. -/
def Reads (P : Program) (t : TypeId) {α : Type} (c : α → List IV) (ok : α → Prop) : Prop :=
  ∀ (H : Type) (enc : TypeId × Value → H) (w : World) (fuel : Nat) (cs : List Value) (x : DataW H × List MemPlace), DataW.trod enc P w 0 (fun _ => true) true fuel t cs = some x → ∃ a, ok a ∧ VRs (uni w) (c a) cs
def ReadsFs (P : Program) (N off : Nat) (fs : List Field) {α : Type} (c : α → List IV) (ok : α → Prop) : Prop :=
  ∀ (H : Type) (enc : TypeId × Value → H) (w : World) (n : Nat) (cs : List Value), cs.length = N → (∀ f ∈ fs, ∃ x, DataW.trod enc P w 0 (fun _ => true) true n f.type ((cs.drop f.offset).take (P.cellsOf f.type)) = some x) → ∃ a, ok a ∧ VRs (uni w) (c a) (cs.drop off)

section
variable {P : Program} {t e : TypeId} {α β : Type} {c : α → List IV} {ok : α → Prop}
theorem Reads.map {c' : β → List IV} {ok' : β → Prop} (h : Reads P t c ok) (g : α → β) (hc : ∀ a, c' (g a) = c a) (ho : ∀ a, ok a → ok' (g a)) : Reads P t c' ok' := by
  intro H enc w fuel cs x e
  obtain ⟨a, h1, h2⟩ := h H enc w fuel cs x e
  exact ⟨g a, ho a h1, by rw [hc]; exact h2⟩
theorem Reads.int {k : IntKind} (ht : P.underlying t = some (.int k)) : Reads P t (fun n : Int => [.i k n]) (fun n => k.min ≤ n ∧ n ≤ k.max) := by
  intro H enc w fuel cs x e
  obtain ⟨n, rfl, _, hw⟩ := DataW.trod_int ht e
  simp only [Lit.wf, Bool.and_eq_true, decide_eq_true_eq] at hw
  exact ⟨n, hw, .cons _ _ _ _ (.i k n) .nil⟩
theorem Reads.bool (ht : P.underlying t = some .bool) : Reads P t (fun b : Bool => [.b b]) (fun _ => True) := by
  intro H enc w fuel cs x e
  obtain ⟨b, rfl, _⟩ := DataW.trod_bool ht e
  exact ⟨b, trivial, .cons _ _ _ _ (.b b) .nil⟩
theorem Reads.string (ht : P.underlying t = some .string) : Reads P t (fun l : List Nat => [.s l]) (fun l => (∀ b ∈ l, b < 256) ∧ l.length ≤ maxLen) := by
  intro H enc w fuel cs x e
  obtain ⟨s, rfl, _, hs⟩ := DataW.trod_string ht e
  refine ⟨s.data.toList.map UInt8.toNat, ⟨fun b hb => ?_, ?_⟩, .cons _ _ _ _ (.s _ s rfl) .nil⟩
  · obtain ⟨u, _, rfl⟩ := List.mem_map.1 hb
    exact u.toNat_lt
  · rw [List.length_map, Array.length_toList]; exact hs
theorem ReadsFs.nil {N : Nat} : ReadsFs P N N [] (fun _ : Unit => []) (fun _ => True) := by
  intro H enc w n cs hN h
  refine ⟨(), trivial, ?_⟩
  rw [List.drop_eq_nil_of_le (by omega)]
  exact .nil
theorem ReadsFs.cons {N off : Nat} {f : Field} {fs : List Field} {c' : β → List IV} {ok' : β → Prop} (ho : f.offset = off) {m : Nat} (hm : P.cellsOf f.type = m) (h : Reads P f.type c ok) (h' : ReadsFs P N (off + m) fs c' ok') :
    ReadsFs P N off (f :: fs) (fun a : α × β => c a.1 ++ c' a.2) (fun a => ok a.1 ∧ ok' a.2) := by
  intro H enc w n cs hN hx
  obtain ⟨x, hx1⟩ := hx f (by simp)
  obtain ⟨a, h1, h2⟩ := h H enc w n _ x hx1
  obtain ⟨b, h3, h4⟩ := h' H enc w n cs hN fun g hg => hx g (by simp [hg])
  refine ⟨(a, b), ⟨h1, h3⟩, ?_⟩
  have := h2.append h4
  rwa [ho, hm, ← List.drop_drop, List.take_append_drop] at this
theorem Reads.struct {fs : Array Field} (ht : P.underlying t = some (.struct fs)) {N : Nat} (hN : P.cellsOf t = N) (h : ReadsFs P N 0 fs.toList c ok) : Reads P t c ok := by
  intro H enc w fuel cs x e
  obtain ⟨xs, n, _, _, hl, hs, hf⟩ := DataW.trod_struct ht e
  obtain ⟨a, h1, h2⟩ := h H enc w n cs (hl.trans hN) fun f hf' => by
    obtain ⟨i, hi, rfl⟩ := List.mem_iff_getElem.1 hf'
    have hi' : i < fs.size := by simpa using hi
    have := hf i fs[i] (by simp [hi'])
    refine ⟨xs[i]'(by omega), ?_⟩
    rw [List.getElem?_eq_getElem (by omega)] at this
    simpa using this
  exact ⟨a, h1, by simpa using h2⟩

/-- Elements, one after the other. -/
theorem elems_of {w : World} {ι : Emb} {z : Nat} {ok : α → Prop} {c : α → List IV} : ∀ (len : Nat) (f : Nat → List Value) (_ : ∀ i, i < len → ∃ a, ok a ∧ VRs ι (c a) (f i)), ∃ l : List α, l.length = len ∧ (∀ a ∈ l, ok a) ∧ ∀ (i : Nat) (a : α), l[i]? = some a → VRs ι (c a) (f i)
  | 0, _, _ => ⟨[], rfl, by simp, by simp⟩
  | n + 1, f, h => by
    obtain ⟨l, h1, h2, h3⟩ := elems_of (w := w) (z := z) n (fun i => f (i + 1)) fun i hi => h (i + 1) (by omega)
    obtain ⟨a, h4, h5⟩ := h 0 (by omega)
    refine ⟨a :: l, by simp [h1], by simpa using ⟨h4, h2⟩, fun i b hb => ?_⟩
    cases i with
    | zero => simp at hb; subst hb; exact h5
    | succ i => exact h3 i b (by simpa using hb)
theorem flat_get {z : Nat} (hz : 0 < z) : ∀ (l : List (List IV)) (_ : ∀ x ∈ l, x.length = z) (i : Nat) (v : IV), l.flatten[i]? = some v → ∃ x, l[i / z]? = some x ∧ x[i % z]? = some v
  | [], _, i, v, h => by simp at h
  | x :: l, hl, i, v, h => by
    have hx := hl x (by simp)
    rw [List.flatten_cons] at h
    rcases Nat.lt_or_ge i z with hi | hi
    · rw [List.getElem?_append_left (by omega)] at h
      exact ⟨x, by rw [Nat.div_eq_of_lt hi]; rfl, by rw [Nat.mod_eq_of_lt hi]; exact h⟩
    · rw [List.getElem?_append_right (by omega), hx] at h
      obtain ⟨y, h1, h2⟩ := flat_get hz l (fun y hy => hl y (by simp [hy])) (i - z) v h
      obtain ⟨k, rfl⟩ : ∃ k, i = k + z := ⟨i - z, by omega⟩
      rw [Nat.add_sub_cancel] at h1 h2
      refine ⟨y, ?_, by rw [Nat.add_mod_right]; exact h2⟩
      rw [Nat.add_div_right _ hz]
      exact h1
theorem Reads.slice (ht : P.underlying t = some (.slice e)) {z : Nat} (hz : P.cellsOf e = z) (hpos : 0 < z) (h : Reads P e c ok) : Reads P t (fun l : List α => [.sli (l.map c)]) (fun l => (∀ a ∈ l, ok a) ∧ l.length ≤ maxLen) := by
  intro H enc w fuel cs x ee
  rcases DataW.trod_slice ht ee with ⟨rfl, _⟩ | ⟨a, len, cap, elems, rest, n, _, rfl, _, _, h1, h2, h3, h4, _, _⟩
  · exact ⟨[], by simp, .cons _ _ _ _ .slin .nil⟩
  · have hcs : ∀ i, i < len → ∃ cs', w.cells? 0 (a.add (i * z)) z = some cs' ∧ ∃ y, DataW.trod enc P w 0 (fun _ => true) true n e cs' = some y := by
      intro i hi
      have := h4 i hi
      rw [hz, List.getElem?_eq_getElem (by omega)] at this
      obtain ⟨cs', h5, h6⟩ := Option.bind_eq_some_iff.1 this
      exact ⟨cs', h5, _, h6⟩
    obtain ⟨l, hl, hok, hv⟩ := elems_of (w := w) (ι := uni w) (z := z) (ok := ok) (c := c) len (fun i => (w.cells? 0 (a.add (i * z)) z).getD []) fun i hi => by
      obtain ⟨cs', h5, y, h6⟩ := hcs i hi
      obtain ⟨b, h7, h8⟩ := h H enc w n cs' y h6
      exact ⟨b, h7, by rw [h5]; exact h8⟩
    refine ⟨l, ⟨hok, by omega⟩, .cons _ _ _ _ ?_ .nil⟩
    cases len with
    | zero =>
      obtain rfl := List.length_eq_zero_iff.1 hl
      exact .sli0 a cap
    | succ len =>
      -- the block
      have cell : ∀ i j, i < len + 1 → j < z → ∃ v, w.cell? ((a.add (i * z)).add j) = some v ∧ ((w.cells? 0 (a.add (i * z)) z).getD [])[j]? = some v := by
        intro i j hi hj
        obtain ⟨cs', h5, _⟩ := hcs i hi
        have h5' := h5
        unfold World.cells? at h5'
        rw [if_pos (Nat.zero_le _)] at h5'
        have hlen := mapM_some_length h5'
        rw [List.length_range] at hlen
        have := mapM_some_get h5' j j (by simp [hj])
        rw [List.getElem?_eq_getElem (by omega)] at this
        exact ⟨_, this, by rw [h5]; simp [hlen, hj]⟩
      obtain ⟨v0, hv0, _⟩ := cell 0 0 (by omega) hpos
      have ha0 : (a.add (0 * z)).add 0 = a := by simp [Addr.add]
      rw [ha0] at hv0
      unfold World.cell? at hv0
      split at hv0
      case h_2 => cases hv0
      case h_1 cc et fr hb =>
      split at hv0
      · cases hv0
      rename_i hspot
      have hsp : a.spot = none := by simpa using hspot
      have hadd : ∀ i j, ((a.add (i * z)).add j) = ⟨a.block, a.off + (i * z + j), none⟩ := by
        intro i j
        obtain ⟨ab, ao, as⟩ := a
        simp only at hsp
        subst hsp
        unfold Addr.add
        split <;> split <;> simp_all [Nat.add_assoc]
      have hget : ∀ i j, i < len + 1 → j < z → ∃ v, cc[a.off + (i * z + j)]? = some v ∧ ((w.cells? 0 (a.add (i * z)) z).getD [])[j]? = some v := by
        intro i j hi hj
        obtain ⟨v, e1, e2⟩ := cell i j hi hj
        rw [hadd] at e1
        unfold World.cell? at e1
        rw [hb] at e1
        exact ⟨v, by simpa using e1, e2⟩
      have hlen : ∀ x ∈ l.map c, x.length = z := by
        intro x hx
        obtain ⟨b, hb', rfl⟩ := List.mem_map.1 hx
        obtain ⟨i, hi, rfl⟩ := List.mem_iff_getElem.1 hb'
        have h7 := hv i l[i] (by simp [hi])
        obtain ⟨cs', h5, _⟩ := hcs i (by omega)
        have h8 := h7.length
        rw [h5] at h8
        have h5' := h5
        unfold World.cells? at h5'
        rw [if_pos (Nat.zero_le _)] at h5'
        have hlen := mapM_some_length h5'
        rw [List.length_range] at hlen
        simp only [Option.getD_some] at h8
        omega
      have hfl : (l.map c).flatten.length = (len + 1) * z := by
        rw [List.length_flatten, List.map_congr_left (g := fun _ => z) (fun x hx => hlen x hx), List.map_map]
        show (l.map (fun _ => z)).sum = _
        rw [List.map_const', List.sum_replicate_nat, hl]
      have him : (uni w).im (.c (l.map c).flatten) a.block a.off := by
        refine uni_in ⟨cc, et, fr, hb, ?_, fun i v hi => ?_⟩
        · obtain ⟨v, e1, _⟩ := hget len (z - 1) (by omega) (by omega)
          obtain ⟨e3, _⟩ := Array.getElem?_eq_some_iff.1 e1
          rw [hfl, Nat.add_mul]
          omega
        · obtain ⟨x, e1, e2⟩ := flat_get hpos _ hlen i v hi
          rw [List.getElem?_map] at e1
          obtain ⟨b, e3, rfl⟩ := Option.map_eq_some_iff.1 e1
          obtain ⟨v', e4, e5⟩ := (hv _ b e3).get e2
          have hi1 : i / z < len + 1 := by
            obtain ⟨hh, _⟩ := List.getElem?_eq_some_iff.1 e3
            omega
          obtain ⟨v'', e6, e7⟩ := hget (i / z) (i % z) hi1 (Nat.mod_lt _ hpos)
          rw [e4] at e7
          cases e7
          refine ⟨v', ?_, e5⟩
          rw [← e6, Nat.div_add_mod' i z]
      have : Value.slice (some a) (len + 1) cap = .slice (some ⟨a.block, a.off + 0, none⟩) (l.map c).length cap := by
        obtain ⟨ab, ao, as⟩ := a
        simp only at hsp
        subst hsp
        simp [hl]
      rw [this]
      exact .sli _ _ _ _ 0 z _ him (by simp) hlen (by simp; omega)

/-- An argument of several cells. -/
theorem Reads.agg {fs : Array Field} (h : Reads P t c ok) (ht : P.underlying t = some (.struct fs)) {r : Reach} {b0 : Nat} {w : World} {v : Value} {H : Type} {enc : TypeId × Value → H} {d : DataW H} {ps : List MemPlace} (hval : Value.okWide P w r b0 t v) (hd : DataW.Trod enc P w 0 (fun _ => true) true t v d ps) :
    ∃ a, ok a ∧ VR (uni w) (.agg (c a)) v := by
  simp only [Value.okWide, ht] at hval
  obtain ⟨cs, rfl, _, _⟩ := hval
  obtain ⟨fuel, hf⟩ := hd
  obtain ⟨a, h1, h2⟩ := h H enc w fuel _ _ hf
  exact ⟨a, h1, .agg _ _ h2⟩
/-- An argument of one cell. -/
theorem Reads.one {x : α → IV} (h : Reads P t (fun a => [x a]) ok) {w : World} {v : Value} (hv : v.cells = #[v]) {H : Type} {enc : TypeId × Value → H} {d : DataW H} {ps : List MemPlace} (hd : DataW.Trod enc P w 0 (fun _ => true) true t v d ps) :
    ∃ a, ok a ∧ VR (uni w) (x a) v := by
  obtain ⟨fuel, hf⟩ := hd
  rw [hv] at hf
  obtain ⟨a, h1, h2⟩ := h H enc w fuel _ _ hf
  cases h2 with
  | cons _ _ _ _ h3 _ => exact ⟨a, h1, h3⟩
end
end Go.Fg
/- What the arguments read as stays when only new blocks are laid. -/
namespace Go.Fg

def slicesFull (P : Program) : Bool := (List.range P.types.size).all fun t => match P.underlying t with
  | some (.slice e) => Nat.ble 1 (P.cellsOf e)
  | _ => true
theorem slices_full {P : Program} (h : slicesFull P = true) {t e : TypeId} (ht : t < P.types.size) (hu : P.underlying t = some (.slice e)) : 0 < P.cellsOf e := by
  have := List.all_eq_true.1 h t (List.mem_range.2 ht)
  rw [hu] at this
  exact Nat.le_of_ble_eq_true this
theorem same_grown {W W' : World} (hg : RowKit.Grown W W') {p : MemPlace} (hp : p.block < W.heap.size) : W.sameAt W' p := by
  obtain ⟨⟨_, _, h⟩, _, _⟩ := hg
  cases p with
  | cell b off =>
    have := h b hp
    show W'.cell? _ = W.cell? _
    unfold World.cell?
    split at this
    · rename_i h1 h2
      rw [h1, h2]
      simp only
      rw [this.2.2.2 off not_false]
    · rename_i h1 h2
      rw [h1, h2]
    · rw [this]
  | map b =>
    have := h b hp
    show W'.heap[b]? = W.heap[b]?
    split at this
    · rename_i h1 h2
      rw [h1, h2]
      obtain ⟨rfl, rfl, _, h3⟩ := this
      rw [Array.ext_getElem? fun i => h3 i not_false]
    · rename_i h1 h2
      rw [h1, h2]
      obtain h | ⟨rfl, rfl⟩ := this
      · exact h.elim
      · rfl
    · exact this

/-- The arguments' reading stays. -/
theorem trodAll_stays {P : Program} (hl : laidOutB P = true) (hm : mapsRowed P = true) (hf : slicesFull P = true) {H : Type} {enc : TypeId × Value → H} {W W' : World} (hg : RowKit.Grown W W') {sp : Nat → Bool} :
    ∀ {ts : List TypeId} {vs : List Value} {ds : List (DataW H)} {ps : List MemPlace}, (∀ t ∈ ts, t < P.types.size) → DataW.TrodAll enc P W 0 (fun _ => true) true ts vs ds ps → (∀ p ∈ ps, sp p.block = true) → DataW.TrodAll enc P W' 0 sp true ts vs ds ps
  | [], [], [], _, _, h, _ => h
  | t :: ts, v :: vs, d :: ds, _, ht, h, hs => by
    obtain ⟨p, q, h1, h2, rfl⟩ := h
    obtain ⟨n, h3⟩ := h1
    refine ⟨p, q, ⟨n, ?_⟩, trodAll_stays hl hm hf hg (fun t h => ht t (by simp [h])) h2 (fun x hx => hs x (by simp [hx])), rfl⟩
    exact DataW.trod_stays (kids_rows hl hm) (fun h1 h2 => slices_full hf h1 h2) (fun h => by cases h) (ht t (by simp)) h3 (fun x hx => same_grown hg (DataW.trod_lt n t _ _ h3 x hx)) (fun x hx => hs x (by simp [hx]))
  | [], [], _ :: _, _, _, h, _ => h.elim
  | [], _ :: _, [], _, _, h, _ => h.elim
  | [], _ :: _, _ :: _, _, _, h, _ => h.elim
  | _ :: _, [], [], _, _, h, _ => h.elim
  | _ :: _, [], _ :: _, _, _, h, _ => h.elim
  | _ :: _, _ :: _, [], _, _, h, _ => h.elim
/-- A function that tells 'true' at arguments that are held by contents returns true. -/
theorem law_true {P : Program} {k : Nat} {args : List IV} (h : Tells P k args (.b true)) {w : World} {args' : Array Value} (ha : VRs (uni w) args args'.toList) : Calls P k args' w fun e w' => e = .returned (.bool true) ∧ RowKit.Grown w w' := by
  refine (h.2 (uni w) w args' ha (uni_hr w)).mono fun e w' hq => ?_
  obtain ⟨v', ι', h', rfl, hv, hf⟩ := hq
  cases hv
  exact ⟨rfl, hf.grown fun b L hb => by cases hb⟩
end Go.Fg
