/- Code with names for the places where ways meet: definitions. -/
import Derived.Test.YtgboonfbfapaaaaGreatFa
import Derived.Test.YtgboonfbfapaaaaGreatFc
import Derived.RowKit3
import Derived.ChangeArms
import Derived.ProofKit
import Derived.ChangeStays
import Derived.ChangeOld
set_option linter.unusedVariables false
set_option linter.unusedSimpArgs false
set_option linter.unusedSectionVars false
namespace Go.Fg

/-- Code with labels: where ways meet, and at loops; which temporaries are looked at from there on. -/
inductive LC where
  | skip
  | ops (l : List IOper)
  | draw (l : List IOper)
  | seq (a b : LC)
  | join (j : Nat) (L : List Pos) (a b : LC)
  | cond (c : Od) (a b : LC)
  | block (id : Nat) (b : LC)
  | loop (j : Nat) (L : List Pos) (b : LC)
  | exit (id : Nat)
  | ret
  | bad

def LC.erase : LC → ICode
  | .skip => .skip
  | .ops l => .ops l
  | .draw l => .draw l
  | .seq a b => .seq a.erase b.erase
  | .join _ _ a b => .seq a.erase b.erase
  | .cond c a b => .cond c a.erase b.erase
  | .block id b => .block id b.erase
  | .loop _ _ b => .loop b.erase
  | .exit id => .exit id
  | .ret => .ret
  | .bad => .bad

/-- What is still to be done behind a piece of code. -/
inductive LI where
  | code (b : LC) (lab : Option (Nat × List Pos))
  | blk (id : Nat)
  | loop (j : Nat) (L : List Pos) (b : LC)

/-! Which temporaries are looked at. -/
noncomputable def memP (p : Pos) : List Pos → Bool := @List.rec Pos (fun _ => Bool) false (fun q _ r => cond (Pos.eq p q) true r)
noncomputable def addP (p : Pos) (l : List Pos) : List Pos := cond (memP p l) l (p :: l)
noncomputable def unionP (x y : List Pos) : List Pos := @List.rec Pos (fun _ => List Pos) y (fun p _ r => addP p r) x
noncomputable def delP (p : Pos) (l : List Pos) : List Pos := @List.rec Pos (fun _ => List Pos) [] (fun q _ r => cond (Pos.eq p q) r (q :: r)) l
noncomputable def subP (x y : List Pos) : Bool := @List.rec Pos (fun _ => Bool) true (fun p _ r => cond (memP p y) r false) x
def odP : List Od → List Pos
  | [] => []
  | .t n :: r => n :: odP r
  | .c _ :: r => odP r
def guardP : Option (Pos × Bool) → List Pos
  | some (t, _) => [t]
  | none => []
def Io.odsX : Io → List Od
  | .rd _ xs | .al _ xs | .ef _ xs => xs
  | .call f xs => f :: xs
  | .bad => []
noncomputable def lvOp (o : IOper) (N : List Pos) : List Pos := unionP (guardP o.guard) (unionP (odP o.op.odsX) (match o.dst with | some d => delP d N | none => N))
noncomputable def lvOps : List IOper → List Pos → List Pos
  | [], N => N
  | o :: r, N => lvOp o (lvOps r N)
def resP : List IRes → List Pos
  | [] => []
  | .t n :: r => n :: resP r
  | .cell a _ :: r => a :: resP r
  | .cell1 a :: r => a :: resP r
/-- What is looked at from a piece of code on: N behind it, X behind its exits, F at the function's end. -/
noncomputable def lv (F : List Pos) : LC → List Pos → (Nat → List Pos) → List Pos
  | .skip, N, _ => N
  | .ops l, N, _ => lvOps l N
  | .draw l, N, _ => lvOps l N
  | .seq a b, N, X => lv F a (lv F b N X) X
  | .join _ L a _, _, X => lv F a L X
  | .cond c a b, N, X => unionP (odP [c]) (unionP (lv F a N X) (lv F b N X))
  | .block id b, N, X => lv F b N (fun k => cond (Nat.beq k id) N (X k))
  | .loop _ L _, _, _ => L
  | .exit id, _, X => X id
  | .ret, _, _ => F
  | .bad, _, _ => []
/-- Are the labels' lists long enough? -/
noncomputable def lvOk (F : List Pos) : LC → List Pos → (Nat → List Pos) → Bool
  | .seq a b, N, X => cond (lvOk F b N X) (lvOk F a (lv F b N X) X) false
  | .join _ L a b, N, X => cond (subP (lv F b N X) L) (cond (lvOk F b N X) (lvOk F a L X) false) false
  | .cond _ a b, N, X => cond (lvOk F a N X) (lvOk F b N X) false
  | .block id b, N, X => lvOk F b N (fun k => cond (Nat.beq k id) N (X k))
  | .loop _ L b, _, X => cond (subP (lv F b L X) L) (lvOk F b L X) false
  | _, _, _ => true

/-- The places with labels. -/
structure Pt where
  j : Nat
  L : List Pos
  c : LC
  S : List LI
def pts : LC → List LI → List Pt
  | .seq a b, S => pts a (.code b none :: S) ++ pts b S
  | .join j L a b, S => ⟨j, L, b, S⟩ :: (pts a (.code b (some (j, L)) :: S) ++ pts b S)
  | .cond _ a b, S => pts a S ++ pts b S
  | .block id b, S => pts b (.blk id :: S)
  | .loop j L b, S => ⟨j, L, .loop j L b, S⟩ :: pts b (.loop j L b :: S)
  | _, _ => []
noncomputable def findPt (j : Nat) (l : List Pt) : Option Pt := @List.rec Pt (fun _ => Option Pt) none (fun p _ r => cond (Nat.beq p.j j) (some p) r) l
noncomputable def memN (n : Nat) (l : List Nat) : Bool := @List.rec Nat (fun _ => Bool) false (fun m _ r => cond (Nat.beq n m) true r) l
noncomputable def nodupN (l : List Nat) : Bool := @List.rec Nat (fun _ => Bool) true (fun m t r => cond (memN m t) false r) l

/-! Labelling. -/
/-- Is there nothing but operations? -/
def plain : ICode → Bool
  | .skip | .ops _ | .draw _ | .exit _ | .ret | .bad => true
  | .seq a b => plain a && plain b
  | _ => false
/-- Labels from n on. -/
noncomputable def label (F : List Pos) : ICode → Nat → List Pos → (Nat → List Pos) → LC × Nat
  | .skip, n, _, _ => (.skip, n)
  | .ops l, n, _, _ => (.ops l, n)
  | .draw l, n, _, _ => (.draw l, n)
  | .seq a b, n, N, X =>
    let (b', n) := label F b n N X
    let L := lv F b' N X
    if plain a then
      let (a', n) := label F a n L X
      (.seq a' b', n)
    else
      let (a', n') := label F a (n + 1) L X
      (.join n L a' b', n')
  | .cond c a b, n, N, X =>
    let (a', n) := label F a n N X
    let (b', n) := label F b n N X
    (.cond c a' b', n)
  | .block id b, n, N, X =>
    let (b', n) := label F b n N (fun k => cond (Nat.beq k id) N (X k))
    (.block id b', n)
  | .loop b, n, _, X =>
    let L := lv F (label F b (n + 1) [] X).1 [] X
    let (b', n') := label F b (n + 1) L X
    (.loop n L b', n')
  | .exit id, n, _, _ => (.exit id, n)
  | .ret, n, _, _ => (.ret, n)
  | .bad, n, _, _ => (.bad, n)

structure LFn where
  res : List IRes
  code : LC
noncomputable def labFn (f : IFn) : LFn := ⟨f.res, (label (resP f.res) f.body 1 (resP f.res) (fun _ => [])).1⟩
noncomputable def okFn (f : LFn) : Bool := cond (lvOk (resP f.res) f.code (resP f.res) (fun _ => [])) (nodupN ((pts f.code []).map (·.j))) false
end Go.Fg
/- Code with names for the places where ways meet: what is not looked at does not matter. -/



namespace Go.Fg

/-! Lists of temporaries. -/
theorem Pos.eq_self (p : Pos) : Pos.eq p p = true := by
  induction p with
  | h => rfl
  | o p ih => exact ih
  | i p ih => exact ih
theorem Pos.eq_iff {p q : Pos} : Pos.eq p q = true ↔ p = q := ⟨Pos.eq_true, fun h => by rw [h]; exact Pos.eq_self q⟩
theorem memP_nil (p : Pos) : memP p [] = false := rfl
theorem memP_cons (p q : Pos) (l : List Pos) : memP p (q :: l) = cond (Pos.eq p q) true (memP p l) := rfl
theorem memP_iff {p : Pos} : ∀ {l : List Pos}, memP p l = true ↔ p ∈ l
  | [] => by simp [memP_nil]
  | q :: l => by
    rw [memP_cons, List.mem_cons]
    cases c : Pos.eq p q with
    | true => simp [Pos.eq_true c]
    | false =>
      have : p ≠ q := fun e => by rw [e, Pos.eq_self] at c; cases c
      simp [this, memP_iff]
theorem mem_addP {p q : Pos} {l : List Pos} : q ∈ addP p l ↔ q = p ∨ q ∈ l := by
  unfold addP
  cases c : memP p l with
  | true => exact ⟨fun h => .inr h, fun h => h.elim (fun e => by rw [e]; exact memP_iff.1 c) id⟩
  | false => simp
theorem mem_unionP {q : Pos} : ∀ {x y : List Pos}, q ∈ unionP x y ↔ q ∈ x ∨ q ∈ y
  | [], y => by show q ∈ y ↔ _; simp
  | p :: x, y => by
    show q ∈ addP p (unionP x y) ↔ _
    rw [mem_addP, mem_unionP, List.mem_cons, or_assoc]
theorem mem_delP {p q : Pos} : ∀ {l : List Pos}, q ∈ delP p l ↔ q ∈ l ∧ q ≠ p
  | [] => by show q ∈ ([] : List Pos) ↔ _; simp
  | r :: l => by
    show q ∈ cond (Pos.eq p r) (delP p l) (r :: delP p l) ↔ _
    cases c : Pos.eq p r with
    | true =>
      have := Pos.eq_true c
      subst this
      show q ∈ delP p l ↔ _
      rw [mem_delP, List.mem_cons]
      constructor
      · rintro ⟨a, b⟩; exact ⟨.inr a, b⟩
      · rintro ⟨a | a, b⟩
        · exact absurd a b
        · exact ⟨a, b⟩
    | false =>
      have : r ≠ p := fun e => by rw [e, Pos.eq_self] at c; cases c
      show q ∈ r :: delP p l ↔ _
      simp only [List.mem_cons, mem_delP]
      constructor
      · rintro (a | ⟨a, b⟩)
        · exact ⟨.inl a, by rw [a]; exact this⟩
        · exact ⟨.inr a, b⟩
      · rintro ⟨a | a, b⟩
        · exact .inl a
        · exact .inr ⟨a, b⟩
theorem subP_mem : ∀ {x y : List Pos}, subP x y = true → ∀ q ∈ x, q ∈ y
  | [], _, _, q, hq => by cases hq
  | p :: x, y, h, q, hq => by
    have h : cond (memP p y) (subP x y) false = true := h
    obtain ⟨h1, h2⟩ := cond_true h
    rcases List.mem_cons.1 hq with rfl | hq
    · exact memP_iff.1 h1
    · exact subP_mem h2 q hq

/-! Frames that agree. -/
def Ag (L : List Pos) (τ τ' : Fm) : Prop := ∀ p ∈ L, Fm.at τ p = Fm.at τ' p
theorem Ag.sub {L M : List Pos} {τ τ' : Fm} (h : Ag L τ τ') (s : ∀ p ∈ M, p ∈ L) : Ag M τ τ' := fun p hp => h p (s p hp)
theorem Ag.od {L : List Pos} {τ τ' : Fm} (h : Ag L τ τ') {x : Od} (s : ∀ p ∈ odP [x], p ∈ L) : x.ev τ = x.ev τ' := by
  cases x with
  | t n => exact h n (s n (by simp [odP]))
  | c v => rfl
theorem Ag.ods {L : List Pos} {τ τ' : Fm} (h : Ag L τ τ') : ∀ {xs : List Od}, (∀ p ∈ odP xs, p ∈ L) → evs τ xs = evs τ' xs
  | [], _ => rfl
  | .t n :: r, s => by
    show Fm.at τ n :: evs τ r = Fm.at τ' n :: evs τ' r
    rw [h n (s n (by simp [odP])), Ag.ods h (fun p hp => s p (by simp [odP, hp]))]
  | .c v :: r, s => by
    show v :: evs τ r = v :: evs τ' r
    rw [Ag.ods (xs := r) h s]
theorem Ag.put {L : List Pos} {τ τ' : Fm} {d : Option Pos} (h : Ag (match d with | some d => delP d L | none => L) τ τ') (v : IV) : Ag L (putd τ d v) (putd τ' d v) := by
  cases d with
  | none => exact h
  | some d =>
    intro p hp
    by_cases e : p = d
    · subst e; rw [Fm.at_putd_eq, Fm.at_putd_eq]
    · rw [Fm.at_putd_ne _ _ e, Fm.at_putd_ne _ _ e]; exact h p (mem_delP.2 ⟨hp, e⟩)
theorem Ag.wanted {L : List Pos} {τ τ' : Fm} (h : Ag L τ τ') {g : Option (Pos × Bool)} (s : ∀ p ∈ guardP g, p ∈ L) : wantedI g τ = wantedI g τ' := by
  cases g with
  | none => rfl
  | some x =>
    obtain ⟨t, w⟩ := x
    show wantV w (Fm.at τ t) = wantV w (Fm.at τ' t)
    rw [h t (s t (by simp [guardP]))]
theorem Ag.exOp {L : List Pos} {τ τ' : Fm} (h : Ag L τ τ') (cf : CallF) {o : Io} (s : ∀ p ∈ odP o.odsX, p ∈ L) (H : Hp) : Go.Fg.exOp cf o τ H = Go.Fg.exOp cf o τ' H := by
  cases o with
  | rd r xs => show exRd r (evs τ xs) H = exRd r (evs τ' xs) H; rw [h.ods (xs := xs) s]
  | al a xs => show exAl a (evs τ xs) H = exAl a (evs τ' xs) H; rw [h.ods (xs := xs) s]
  | ef e xs => show e.ev (evs τ xs) H = e.ev (evs τ' xs) H; rw [h.ods (xs := xs) s]
  | call f xs =>
    show exCall cf (f.ev τ) (evs τ xs) H = exCall cf (f.ev τ') (evs τ' xs) H
    have s1 : ∀ p ∈ odP [f], p ∈ L := fun p hp => s p (by
      cases f with
      | t n => simp [odP] at hp; simp [Io.odsX, odP, hp]
      | c v => simp [odP] at hp)
    have s2 : ∀ p ∈ odP xs, p ∈ L := fun p hp => s p (by
      cases f with
      | t n => simp [Io.odsX, odP, hp]
      | c v => simp [Io.odsX, odP, hp])
    rw [h.od s1, h.ods s2]
  | bad => rfl
theorem Ag.frzOds {L : List Pos} : ∀ {l : List Od} {τ τ' : Fm} (H : Hp), Ag L τ τ' → (∀ p ∈ odP l, p ∈ L) →
    (Go.Fg.frzOds H τ l = none ∧ Go.Fg.frzOds H τ' l = none) ∨ ∃ τ1 τ1' H1, Go.Fg.frzOds H τ l = some (τ1, H1) ∧ Go.Fg.frzOds H τ' l = some (τ1', H1) ∧ Ag L τ1 τ1'
  | [], τ, τ', H, h, _ => .inr ⟨τ, τ', H, rfl, rfl, h⟩
  | .c _ :: r, τ, τ', H, h, s => Ag.frzOds (l := r) H h s
  | .t n :: r, τ, τ', H, h, s => by
    have e := h n (s n (by simp [odP]))
    unfold Go.Fg.frzOds
    rw [← e]
    cases Nat.ble n.num 1000000 with
    | false => exact .inl ⟨rfl, rfl⟩
    | true =>
      show (_ ∧ (cond true _ none) = none) ∨ _
      cases frz H (Fm.at τ n) with
      | none => exact .inl ⟨rfl, rfl⟩
      | some x =>
        obtain ⟨u, H1⟩ := x
        refine Ag.frzOds (l := r) H1 (Ag.put (d := some n) (fun p hp => h p (mem_delP.1 hp).1) u) (fun p hp => s p (by simp [odP, hp]))
theorem toFz_sub (o : Io) : ∀ p ∈ odP o.toFz, p ∈ odP o.odsX := by
  intro p hp
  cases o with
  | rd r xs => exact hp
  | al a xs => exact hp
  | ef e xs =>
    cases xs with
    | nil => simp [Io.toFz, odP] at hp
    | cons x xs =>
      have hp' : p ∈ odP xs := hp
      cases x
      · exact List.mem_cons_of_mem _ hp'
      · exact hp'
  | call f xs =>
    cases xs with
    | nil => simp [Io.toFz, odP] at hp
    | cons x xs =>
      have hp' : p ∈ odP xs := hp
      cases f <;> cases x
      · exact List.mem_cons_of_mem _ (List.mem_cons_of_mem _ hp')
      · exact List.mem_cons_of_mem _ hp'
      · exact List.mem_cons_of_mem _ hp'
      · exact hp'
  | bad => exact hp
theorem Ag.exOpz {L : List Pos} {τ τ' : Fm} (h : Ag L τ τ') (cf : CallF) {o : IOper} (s : ∀ p ∈ odP o.op.odsX, p ∈ L) (H : Hp) : Go.Fg.exOpz cf o τ H = Go.Fg.exOpz cf o τ' H := by
  unfold Go.Fg.exOpz
  cases o.fz with
  | false => exact h.exOp cf s H
  | true =>
    show exFz cf o.op τ H = exFz cf o.op τ' H
    unfold exFz
    rcases Ag.frzOds H h (fun p hp => s p (toFz_sub _ p hp)) with ⟨e1, e2⟩ | ⟨τ1, τ1', H1, e1, e2, k⟩
    · rw [e1, e2]
    · rw [e1, e2]; exact k.exOp cf s H1

/-- Outcomes that agree. -/
def OA (F N : List Pos) (X : Nat → List Pos) : Out → Out → Prop
  | .nrm τ h, .nrm τ' h' => h = h' ∧ Ag N τ τ'
  | .ret τ h, .ret τ' h' => h = h' ∧ Ag F τ τ'
  | .exit k τ h, .exit k' τ' h' => k = k' ∧ h = h' ∧ Ag (X k) τ τ'
  | .fail, .fail => True
  | _, _ => False
section
variable {F : List Pos} {X : Nat → List Pos} {cf : CallF}
theorem lvOp_ag {o : IOper} {N : List Pos} {τ τ' : Fm} (h : Ag (lvOp o N) τ τ') : wantedI o.guard τ = wantedI o.guard τ' ∧ (∀ H, exOpz cf o τ H = exOpz cf o τ' H) ∧ (∀ H, exOp cf o.op τ H = exOp cf o.op τ' H) ∧ evs τ (match o.op with | .rd _ xs => xs | _ => []) = evs τ' (match o.op with | .rd _ xs => xs | _ => []) ∧ ∀ v, Ag N (putd τ o.dst v) (putd τ' o.dst v) := by
  unfold lvOp at h
  have h1 : ∀ p ∈ guardP o.guard, p ∈ unionP (guardP o.guard) (unionP (odP o.op.odsX) (match o.dst with | some d => delP d N | none => N)) := fun p hp => mem_unionP.2 (.inl hp)
  have h2 : ∀ p ∈ odP o.op.odsX, p ∈ unionP (guardP o.guard) (unionP (odP o.op.odsX) (match o.dst with | some d => delP d N | none => N)) := fun p hp => mem_unionP.2 (.inr (mem_unionP.2 (.inl hp)))
  refine ⟨h.wanted h1, fun H => h.exOpz cf h2 H, fun H => h.exOp cf h2 H, ?_, fun v => Ag.put (h.sub fun p hp => mem_unionP.2 (.inr (mem_unionP.2 (.inr hp)))) v⟩
  cases ho : o.op with
  | rd r xs => rw [ho] at h2 h; exact h.ods h2
  | _ => rfl
theorem exOps_ag : ∀ {l : List IOper} {N : List Pos} {τ τ' : Fm} {H : Hp}, Ag (lvOps l N) τ τ' → OA F N X (exOps cf l τ H) (exOps cf l τ' H)
  | [], N, τ, τ', H, h => ⟨rfl, h⟩
  | o :: r, N, τ, τ', H, h => by
    obtain ⟨h1, h2, _, _, h3⟩ := lvOp_ag (cf := cf) (show Ag (lvOp o (lvOps r N)) τ τ' from h)
    unfold exOps
    rw [← h1]
    cases wantedI o.guard τ with
    | false => exact exOps_ag (l := r) (h3 _)
    | true =>
      show OA F N X (opThen (exOps cf r) τ o.dst (exOpz cf o τ H)) (opThen (exOps cf r) τ' o.dst (exOpz cf o τ' H))
      rw [← h2]
      cases exOpz cf o τ H with
      | none => trivial
      | some x => obtain ⟨v, H'⟩ := x; exact exOps_ag (l := r) (h3 v)
theorem exDraw_ag : ∀ {l : List IOper} {n : Nat} {d : DSt} {N : List Pos} {τ τ' : Fm} {H : Hp}, Ag (lvOps l N) τ τ' → OA F N X (exDraw cf l n d τ H) (exDraw cf l n d τ' H)
  | [], n, d, N, τ, τ', H, h => ⟨rfl, h⟩
  | o :: r, n, d, N, τ, τ', H, h => by
    obtain ⟨h1, _, h2, h4, h3⟩ := lvOp_ag (cf := cf) (show Ag (lvOp o (lvOps r N)) τ τ' from h)
    rw [exDraw_cons, exDraw_cons, ← h1]
    cases wantedI o.guard τ with
    | false => exact exDraw_ag (l := r) (h3 _)
    | true =>
      show OA F N X (drawThen (exDraw cf r (n + 1)) n o d τ H (exOp cf o.op τ H)) (drawThen (exDraw cf r (n + 1)) n o d τ' H (exOp cf o.op τ' H))
      rw [← h2]
      cases exOp cf o.op τ H with
      | none => trivial
      | some x =>
        obtain ⟨v, H'⟩ := x
        have e : drawSt n o.bits o.op τ H v H' d = drawSt n o.bits o.op τ' H v H' d := by
          cases ho : o.op with
          | rd q xs =>
            rw [ho] at h4
            show drawRd n o.bits q (evs τ xs) v d = drawRd n o.bits q (evs τ' xs) v d
            rw [h4]
          | _ => rfl
        show OA F N X (drawThen _ n o d τ H (some (v, H'))) (drawThen _ n o d τ' H (some (v, H')))
        unfold drawThen
        simp only [← e]
        split
        · exact exDraw_ag (l := r) (h3 v)
        · trivial

theorem OA.then {N M : List Pos} {o o' : Out} {k : Fm → Hp → Out} (h : OA F N X o o') (hk : ∀ τ τ' H, Ag N τ τ' → OA F M X (k τ H) (k τ' H)) : OA F M X (thenI k o) (thenI k o') := by
  cases o <;> cases o' <;> first | exact h.elim | skip
  · obtain ⟨rfl, h⟩ := h; exact hk _ _ _ h
  · exact h
  · exact h
  · exact h
theorem OA.sub {N M : List Pos} {o o' : Out} (h : OA F N X o o') (s : ∀ p ∈ M, p ∈ N) : OA F M X o o' := by
  cases o <;> cases o' <;> first | exact h | exact ⟨h.1, h.2.sub s⟩

/-- WHAT IS NOT LOOKED AT DOES NOT MATTER. -/
theorem sem_ag {n : Nat} : ∀ (c : LC) {N : List Pos} {X : Nat → List Pos} {τ τ' : Fm} {H : Hp}, lvOk F c N X = true → Ag (lv F c N X) τ τ' → OA F N X (sem n cf c.erase τ H) (sem n cf c.erase τ' H)
  | .skip, N, X, τ, τ', H, _, h => ⟨rfl, h⟩
  | .ops l, N, X, τ, τ', H, _, h => exOps_ag h
  | .draw l, N, X, τ, τ', H, _, h => exDraw_ag h
  | .exit id, N, X, τ, τ', H, _, h => ⟨rfl, rfl, h⟩
  | .ret, N, X, τ, τ', H, _, h => ⟨rfl, h⟩
  | .bad, N, X, τ, τ', H, _, h => trivial
  | .seq a b, N, X, τ, τ', H, ok, h => by
    obtain ⟨o1, o2⟩ := cond_true (show cond (lvOk F b N X) (lvOk F a (lv F b N X) X) false = true from ok)
    exact OA.then (sem_ag a o2 h) fun τ τ' H k => sem_ag b o1 k
  | .join j L a b, N, X, τ, τ', H, ok, h => by
    obtain ⟨o0, o⟩ := cond_true (show cond (subP (lv F b N X) L) (cond (lvOk F b N X) (lvOk F a L X) false) false = true from ok)
    obtain ⟨o1, o2⟩ := cond_true o
    exact OA.then (sem_ag a o2 h) fun τ τ' H k => sem_ag b o1 (k.sub (subP_mem o0))
  | .cond c a b, N, X, τ, τ', H, ok, h => by
    obtain ⟨o1, o2⟩ := cond_true (show cond (lvOk F a N X) (lvOk F b N X) false = true from ok)
    have h : Ag (unionP (odP [c]) (unionP (lv F a N X) (lv F b N X))) τ τ' := h
    have e := h.od (x := c) fun p hp => mem_unionP.2 (.inl hp)
    show OA F N X (condI (sem n cf a.erase τ H) (sem n cf b.erase τ H) (c.ev τ)) (condI (sem n cf a.erase τ' H) (sem n cf b.erase τ' H) (c.ev τ'))
    rw [← e]
    unfold condI
    split
    · exact sem_ag a o1 (h.sub fun p hp => mem_unionP.2 (.inr (mem_unionP.2 (.inl hp))))
    · exact sem_ag b o2 (h.sub fun p hp => mem_unionP.2 (.inr (mem_unionP.2 (.inr hp))))
    · trivial
  | .block id b, N, X, τ, τ', H, ok, h => by
    have k := sem_ag (n := n) b ok (H := H) h
    show OA F N X (blockI id (sem n cf b.erase τ H)) (blockI id (sem n cf b.erase τ' H))
    generalize sem n cf b.erase τ H = o at k ⊢
    generalize sem n cf b.erase τ' H = o' at k ⊢
    cases o <;> cases o' <;> first | exact k.elim | exact k | skip
    · rename_i i τ1 h1 i' τ2 h2
      obtain ⟨rfl, rfl, k⟩ := k
      show OA F N X (cond (Nat.beq i id) (.nrm τ1 h1) (.exit i τ1 h1)) (cond (Nat.beq i id) (.nrm τ2 h1) (.exit i τ2 h1))
      have k : Ag (cond (Nat.beq i id) N (X i)) τ1 τ2 := k
      cases c : Nat.beq i id with
      | true => rw [c] at k; exact ⟨rfl, k⟩
      | false => rw [c] at k; exact ⟨rfl, rfl, k⟩
  | .loop j L b, N, X, τ, τ', H, ok, h => by
    obtain ⟨o0, o1⟩ := cond_true (show cond (subP (lv F b L X) L) (lvOk F b L X) false = true from ok)
    have key : ∀ m τ τ' H, Ag L τ τ' → OA F N X (loopN (sem n cf b.erase) m τ H) (loopN (sem n cf b.erase) m τ' H) := by
      intro m
      induction m with
      | zero => intro τ τ' H _; trivial
      | succ m ih =>
        intro τ τ' H h
        exact OA.then (sem_ag b o1 (h.sub (subP_mem o0))) ih
    exact key n τ τ' H h

theorem semW_ag {c : LC} {N : List Pos} {X : Nat → List Pos} {τ τ' : Fm} {H : Hp} (ok : lvOk F c N X = true) (h : Ag (lv F c N X) τ τ') : OA F N X (semW cf c.erase τ H) (semW cf c.erase τ' H) := by
  by_cases c1 : semW cf c.erase τ H = .fail
  · by_cases c2 : semW cf c.erase τ' H = .fail
    · rw [c1, c2]; trivial
    · obtain ⟨n, hn⟩ := semW_inv rfl c2
      have k := sem_ag (n := n) (cf := cf) c ok (H := H) h
      rw [hn] at k
      have : sem n cf c.erase τ H ≠ .fail := by
        intro e; rw [e] at k
        generalize semW cf c.erase τ' H = o at k c2
        cases o <;> first | exact k.elim | exact c2 rfl
      rw [semW_of rfl this] at c1
      exact absurd c1 this
  · obtain ⟨n, hn⟩ := semW_inv rfl c1
    have k := sem_ag (n := n) (cf := cf) c ok (H := H) h
    rw [hn] at k
    have : sem n cf c.erase τ' H ≠ .fail := by
      intro e; rw [e] at k
      generalize semW cf c.erase τ H = o at k c1
      cases o <;> first | exact k.elim | exact c1 rfl
    rw [semW_of rfl this]
    exact k
end
end Go.Fg
/- Code with names for the places where ways meet: what each place does, as one expression. -/



namespace Go.Fg

abbrev R := Option (IV × Hp)

noncomputable def leaveX (τ : Fm) (h : Hp) : List IRes → (List IV → R) → R
  | [], k => k []
  | .t n :: r, k => leaveX τ h r (fun vs => k (Fm.at τ n :: vs))
  | .cell a n :: r, k => (evLd n h [Fm.at τ a]).bind fun v => leaveX τ h r (fun vs => k (v :: vs))
  | .cell1 a :: r, k => (evLd1 h [Fm.at τ a]).bind fun v => leaveX τ h r (fun vs => k (v :: vs))
noncomputable def leaveR (rs : List IRes) (τ : Fm) (h : Hp) : R := leaveX τ h rs (fun vs => some (oneOf vs, h))
theorem leaveX_eq (τ : Fm) (h : Hp) : ∀ (rs : List IRes) (k : List IV → R), leaveX τ h rs k = (resultsI τ h rs).bind k
  | [], k => rfl
  | .t n :: r, k => by
    show leaveX τ h r _ = (consO (some (Fm.at τ n)) (resultsI τ h r)).bind k
    rw [leaveX_eq]
    cases resultsI τ h r <;> rfl
  | .cell a n :: r, k => by
    show (evLd n h [Fm.at τ a]).bind _ = (consO (evLd n h [Fm.at τ a]) (resultsI τ h r)).bind k
    cases evLd n h [Fm.at τ a] with
    | none => rfl
    | some v =>
      show leaveX τ h r _ = _
      rw [leaveX_eq]
      cases resultsI τ h r <;> rfl
  | .cell1 a :: r, k => by
    show (evLd1 h [Fm.at τ a]).bind _ = (consO (evLd1 h [Fm.at τ a]) (resultsI τ h r)).bind k
    cases evLd1 h [Fm.at τ a] with
    | none => rfl
    | some v =>
      show leaveX τ h r _ = _
      rw [leaveX_eq]
      cases resultsI τ h r <;> rfl
theorem leaveR_eq (rs : List IRes) (τ : Fm) (h : Hp) : leaveR rs τ h = leaveI rs (.nrm τ h) := by
  unfold leaveR
  rw [leaveX_eq]
  show _ = match resultsI τ h rs with | some vs => some (oneOf vs, h) | none => none
  cases resultsI τ h rs <;> rfl

/-- What comes of an outcome, with so much still to be done. -/
noncomputable def runS (cf : CallF) (rs : List IRes) : List LI → Out → R
  | _, .ret τ h => leaveR rs τ h
  | _, .fail => none
  | [], .nrm τ h => leaveR rs τ h
  | [], .exit _ _ _ => none
  | .code c _ :: S, .nrm τ h => runS cf rs S (semW cf c.erase τ h)
  | .code _ _ :: S, .exit k τ h => runS cf rs S (.exit k τ h)
  | .blk _ :: S, .nrm τ h => runS cf rs S (.nrm τ h)
  | .blk id :: S, .exit k τ h => cond (Nat.beq k id) (runS cf rs S (.nrm τ h)) (runS cf rs S (.exit k τ h))
  | .loop _ _ b :: S, .nrm τ h => runS cf rs S (semW cf (.loop b.erase) τ h)
  | .loop _ _ _ :: S, .exit k τ h => runS cf rs S (.exit k τ h)
noncomputable def E (cf : CallF) (rs : List IRes) (c : LC) (S : List LI) (τ : Fm) (h : Hp) : R := runS cf rs S (semW cf c.erase τ h)

def condR (x y : R) : IV → R
  | .b true => x
  | .b false => y
  | _ => none
noncomputable def frameL : List Pos → List IV → Fm
  | p :: L, v :: vs => PT.put (frameL L vs) p (some v)
  | _, _ => .nil

/-! One operation, and what comes behind it. -/
noncomputable def xOp (cf : CallF) (o : Io) (τ : Fm) (h : Hp) (k : IV → Hp → R) : R :=
  match o with
  | .rd r xs => (r.ev (evs τ xs) h).bind fun v => k v h
  | .al a xs => (a.ev (evs τ xs) h.next).bind fun p => k p.2 (h.new p.1)
  | .ef e xs => (e.ev (evs τ xs) h).bind fun p => k p.1 p.2
  | .call f xs => (exCall cf (f.ev τ) (evs τ xs) h).bind fun p => k p.1 p.2
  | .bad => none
noncomputable def xFz (h : Hp) (τ : Fm) (l : List Od) (k : Fm → Hp → R) : R :=
  @List.rec Od (fun _ => Hp → Fm → R) (fun h τ => k τ h)
    (fun x _ ih h τ => @Od.casesOn (fun _ => R) x (fun n => cond (Nat.ble n.num 1000000) ((frz h (Fm.at τ n)).bind fun p => ih p.2 (putd τ (some n) p.1)) none) (fun _ => ih h τ)) l h τ
noncomputable def xOpz (cf : CallF) (o : IOper) (τ : Fm) (h : Hp) (k : IV → Hp → R) : R :=
  cond o.fz (xFz h τ o.op.toFz (fun τ' h' => xOp cf o.op τ' h' k)) (xOp cf o.op τ h k)
noncomputable def xG (cf : CallF) (g : Bool) (o : Io) (τ : Fm) (h : Hp) (k : IV → Hp → R) : R :=
  match o with
  | .rd r xs => (cond g (r.ev (evs τ xs) h) (some undefd)).bind fun v => k v h
  | .al a xs => (cond g (exAl a (evs τ xs) h) (some (undefd, h))).bind fun p => k p.1 p.2
  | .ef e xs => (cond g (e.ev (evs τ xs) h) (some (undefd, h))).bind fun p => k p.1 p.2
  | .call f xs => (cond g (exCall cf (f.ev τ) (evs τ xs) h) (some (undefd, h))).bind fun p => k p.1 p.2
  | .bad => cond g none (k undefd h)
noncomputable def xGz (cf : CallF) (g : Bool) (o : IOper) (τ : Fm) (h : Hp) (k : IV → Hp → R) : R :=
  cond o.fz ((cond g (exOpz cf o τ h) (some (undefd, h))).bind fun p => k p.1 p.2) (xG cf g o.op τ h k)
noncomputable def xOps (cf : CallF) (k : Fm → Hp → R) (l : List IOper) : Fm → Hp → R :=
  @List.rec IOper (fun _ => Fm → Hp → R) k
    (fun o _ ih τ h => match o.guard with
      | none => xOpz cf o τ h (fun v h' => ih (putd τ o.dst v) h')
      | some (t, w) => xGz cf (wantV w (Fm.at τ t)) o τ h (fun v h' => ih (putd τ o.dst v) h')) l
/-- Is what is seen at a place asked for behind it? -/
def needs (n : Nat) : List IOper → Bool
  | [] => false
  | o :: r => cond (Nat.testBit o.bits n) (needs n r) true
noncomputable def xD (cf : CallF) (nd : Bool) (o : IOper) (n : Nat) (looks : List Seen) (old : List (Nat × Hp)) (τ : Fm) (h : Hp) (k : List Seen → List (Nat × Hp) → IV → Hp → R) : R :=
  match o.op with
  | .rd q xs => (q.ev (evs τ xs) h).bind fun v => cond (isR q) (cond (seenBefore o.bits q (evs τ xs) v old) (k (cond nd (⟨n, q, evs τ xs, v⟩ :: looks) looks) old v h) none) (k looks old v h)
  | .al a xs => (a.ev (evs τ xs) h.next).bind fun p => k looks old p.2 (h.new p.1)
  | .ef e xs => (e.ev (evs τ xs) h).bind fun p => cond (seenAgain o.bits p.2 looks) (k looks (cond nd ((n, h) :: old) old) p.1 p.2) none
  | .call f xs => (exCall cf (f.ev τ) (evs τ xs) h).bind fun p => cond (seenAgain o.bits p.2 looks) (k looks (cond nd ((n, h) :: old) old) p.1 p.2) none
  | .bad => none
def consIf {α : Type} (g : Bool) (x : α) (l : List α) : List α := cond g (x :: l) l
/-- A guarded operation. -/
noncomputable def xE (cf : CallF) (nd g : Bool) (o : IOper) (n : Nat) (looks : List Seen) (old : List (Nat × Hp)) (τ : Fm) (h : Hp) (k : List Seen → List (Nat × Hp) → IV → Hp → R) : R := match o.op with
  | .rd q xs => (cond g ((q.ev (evs τ xs) h).bind fun v => cond (isR q) (cond (seenBefore o.bits q (evs τ xs) v old) (some v) none) (some v)) (some undefd)).bind fun v => k (cond (isR q) (cond nd (consIf g ⟨n, q, evs τ xs, v⟩ looks) looks) looks) old v h
  | .al a xs => (cond g (exAl a (evs τ xs) h) (some (undefd, h))).bind fun p => k looks old p.1 p.2
  | .ef e xs => (cond g ((e.ev (evs τ xs) h).bind fun p => cond (seenAgain o.bits p.2 looks) (some p) none) (some (undefd, h))).bind fun p => k looks (cond nd (consIf g (n, h) old) old) p.1 p.2
  | .call f xs => (cond g ((exCall cf (f.ev τ) (evs τ xs) h).bind fun p => cond (seenAgain o.bits p.2 looks) (some p) none) (some (undefd, h))).bind fun p => k looks (cond nd (consIf g (n, h) old) old) p.1 p.2
  | .bad => cond g none (k looks old undefd h)
noncomputable def xDraw (cf : CallF) (k : Fm → Hp → R) (l : List IOper) : Nat → List Seen → List (Nat × Hp) → Fm → Hp → R :=
  @List.rec IOper (fun _ => Nat → List Seen → List (Nat × Hp) → Fm → Hp → R) (fun _ _ _ τ h => k τ h)
    (fun o r ih n looks old τ h => match o.guard with
      | none => xD cf (needs n r) o n looks old τ h (fun looks old v h' => ih (n + 1) looks old (putd τ o.dst v) h')
      | some (t, w) => xE cf (needs n r) (wantV w (Fm.at τ t)) o n looks old τ h (fun looks old v h' => ih (n + 1) looks old (putd τ o.dst v) h')) l

abbrev JF := Nat → List IV → Hp → R
noncomputable def popX (rs : List IRes) (J : JF) (x : LC → List LI → Fm → Hp → R) : List LI → Fm → Hp → R
  | [], τ, h => leaveR rs τ h
  | .code b none :: S, τ, h => x b S τ h
  | .code _ (some (j, L)) :: _, τ, h => J j (L.map (Fm.at τ)) h
  | .blk _ :: S, τ, h => popX rs J x S τ h
  | .loop j L _ :: _, τ, h => J j (L.map (Fm.at τ)) h
noncomputable def popE (rs : List IRes) (J : JF) (x : LC → List LI → Fm → Hp → R) (id : Nat) : List LI → Fm → Hp → R
  | [], _, _ => none
  | .blk k :: S, τ, h => cond (Nat.beq id k) (popX rs J x S τ h) (popE rs J x id S τ h)
  | .code _ _ :: S, τ, h => popE rs J x id S τ h
  | .loop _ _ _ :: S, τ, h => popE rs J x id S τ h
noncomputable def stepX (cf : CallF) (rs : List IRes) (J : JF) (x : LC → List LI → Fm → Hp → R) (c : LC) (S : List LI) (τ : Fm) (h : Hp) : R :=
  match c with
  | .skip => popX rs J x S τ h
  | .ops l => xOps cf (popX rs J x S) l τ h
  | .draw l => xDraw cf (popX rs J x S) l 0 [] [] τ h
  | .seq a b => x a (.code b none :: S) τ h
  | .join j L a b => x a (.code b (some (j, L)) :: S) τ h
  | .cond o a b => condR (x a S τ h) (x b S τ h) (o.ev τ)
  | .block id b => x b (.blk id :: S) τ h
  | .loop j L _ => J j (L.map (Fm.at τ)) h
  | .exit id => popE rs J x id S τ h
  | .ret => leaveR rs τ h
  | .bad => none
noncomputable def X (cf : CallF) (rs : List IRes) (J : JF) (n : Nat) : LC → List LI → Fm → Hp → R :=
  @Nat.rec (fun _ => LC → List LI → Fm → Hp → R) (fun c S τ h => E cf rs c S τ h) (fun _ x c S τ h => stepX cf rs J x c S τ h) n

/-- What the place with label j does: its temporaries' values, memory. -/
noncomputable def J (cf : CallF) (f : LFn) : JF := fun j vs h => match findPt j (pts f.code []) with
  | some p => E cf f.res p.c p.S (frameL p.L vs) h
  | none => none
/-- What a place does, one round on if it is a loop. -/
noncomputable def XP (cf : CallF) (f : LFn) (p : Pt) (τ : Fm) (h : Hp) : R := match p.c with
  | .loop j L b => X cf f.res (J cf f) 100000 b (.loop j L b :: p.S) τ h
  | c => X cf f.res (J cf f) 100000 c p.S τ h
noncomputable def XJ (cf : CallF) (f : LFn) (j : Nat) (vs : List IV) (h : Hp) : R := match findPt j (pts f.code []) with
  | some p => XP cf f p (frameL p.L vs) h
  | none => none
noncomputable def X0 (cf : CallF) (f : LFn) (args : List IV) (h : Hp) : R := X cf f.res (J cf f) 100000 f.code [] (frameOf args .h .nil) h

section
variable {cf : CallF} {rs : List IRes}

theorem xOp_eq (o : Io) (τ : Fm) (h : Hp) (k : IV → Hp → R) : xOp cf o τ h k = (exOp cf o τ h).bind fun p => k p.1 p.2 := by
  cases o with
  | rd r xs =>
    show (r.ev (evs τ xs) h).bind _ = (exRd r (evs τ xs) h).bind _
    unfold exRd
    cases r.ev (evs τ xs) h <;> rfl
  | al a xs =>
    show (a.ev (evs τ xs) h.next).bind _ = (exAl a (evs τ xs) h).bind _
    unfold exAl
    cases a.ev (evs τ xs) h.next <;> rfl
  | ef e xs => rfl
  | call f xs => rfl
  | bad => rfl
theorem xFz_eq : ∀ (l : List Od) (h : Hp) (τ : Fm) (k : Fm → Hp → R), xFz h τ l k = (frzOds h τ l).bind fun p => k p.1 p.2
  | [], h, τ, k => rfl
  | .c _ :: r, h, τ, k => xFz_eq r h τ k
  | .t n :: r, h, τ, k => by
    show cond (Nat.ble n.num 1000000) ((frz h (Fm.at τ n)).bind fun p => xFz p.2 (putd τ (some n) p.1) r k) none = _
    unfold frzOds
    cases Nat.ble n.num 1000000 with
    | false => rfl
    | true =>
      show (frz h (Fm.at τ n)).bind _ = _
      cases q : frz h (Fm.at τ n) with
      | none => show none = Option.bind (cond true _ none) _; simp [q]
      | some x =>
        show xFz x.2 (putd τ (some n) x.1) r k = Option.bind (cond true _ none) _
        rw [xFz_eq]
        obtain ⟨u, h'⟩ := x
        simp
theorem xOpz_eq (o : IOper) (τ : Fm) (h : Hp) (k : IV → Hp → R) : xOpz cf o τ h k = (exOpz cf o τ h).bind fun p => k p.1 p.2 := by
  unfold xOpz exOpz
  cases o.fz with
  | false => exact xOp_eq _ _ _ _
  | true =>
    show xFz h τ o.op.toFz _ = (exFz cf o.op τ h).bind _
    rw [xFz_eq]
    unfold exFz
    cases frzOds h τ o.op.toFz with
    | none => rfl
    | some x => exact xOp_eq _ _ _ _
theorem xGz_eq (g : Bool) (o : IOper) (τ : Fm) (h : Hp) (k : IV → Hp → R) : xGz cf g o τ h k = (cond g (exOpz cf o τ h) (some (undefd, h))).bind fun p => k p.1 p.2 := by
  unfold xGz
  cases hz : o.fz with
  | true => rfl
  | false =>
    show xG cf g o.op τ h k = _
    have e : exOpz cf o τ h = exOp cf o.op τ h := by unfold exOpz; rw [hz]; rfl
    rw [e]
    cases g with
    | false => cases o.op <;> rfl
    | true =>
      have := xOp_eq (cf := cf) o.op τ h k
      show _ = (exOp cf o.op τ h).bind _
      rw [← this]
      cases o.op with
      | al a xs =>
        show (exAl a (evs τ xs) h).bind _ = (a.ev (evs τ xs) h.next).bind _
        unfold exAl
        cases a.ev (evs τ xs) h.next <;> rfl
      | _ => rfl
theorem runS_fail (S : List LI) : runS cf rs S .fail = none := by cases S <;> unfold runS <;> rfl
theorem runS_ret (S : List LI) (τ : Fm) (h : Hp) : runS cf rs S (.ret τ h) = leaveR rs τ h := by cases S <;> unfold runS <;> rfl
theorem xOps_eq (S : List LI) : ∀ (l : List IOper) (τ : Fm) (h : Hp), xOps cf (fun τ h => runS cf rs S (.nrm τ h)) l τ h = runS cf rs S (exOps cf l τ h)
  | [], τ, h => rfl
  | o :: r, τ, h => by
    have ih := xOps_eq S r
    show (match o.guard with
      | none => xOpz cf o τ h (fun v h' => xOps cf (fun τ h => runS cf rs S (.nrm τ h)) r (putd τ o.dst v) h')
      | some (t, w) => xGz cf (wantV w (Fm.at τ t)) o τ h (fun v h' => xOps cf (fun τ h => runS cf rs S (.nrm τ h)) r (putd τ o.dst v) h')) = _
    unfold exOps
    cases hg : o.guard with
    | none =>
      show xOpz cf o τ h _ = runS cf rs S (opThen (exOps cf r) τ o.dst (exOpz cf o τ h))
      rw [xOpz_eq]
      cases exOpz cf o τ h with
      | none => exact (runS_fail S).symm
      | some x => exact ih _ _
    | some g =>
      obtain ⟨t, w⟩ := g
      show xGz cf (wantV w (Fm.at τ t)) o τ h _ = runS cf rs S (cond (wantV w (Fm.at τ t)) (opThen (exOps cf r) τ o.dst (exOpz cf o τ h)) (exOps cf r (putd τ o.dst undefd) h))
      rw [xGz_eq]
      cases wantV w (Fm.at τ t) with
      | false => exact ih _ _
      | true =>
        show (exOpz cf o τ h).bind _ = runS cf rs S (opThen (exOps cf r) τ o.dst (exOpz cf o τ h))
        cases exOpz cf o τ h with
        | none => exact (runS_fail S).symm
        | some x => exact ih _ _
theorem again_drop {bits : Nat} {h : Hp} {x : Seen} (hx : Nat.testBit bits x.place = true) (b : List Seen) : ∀ a, seenAgain bits h (a ++ x :: b) = seenAgain bits h (a ++ b)
  | [] => by
    show cond (cond (Nat.testBit bits x.place) true _) (seenAgain bits h b) false = _
    rw [hx]; rfl
  | y :: a => by
    show cond _ (seenAgain bits h (a ++ x :: b)) false = cond _ (seenAgain bits h (a ++ b)) false
    rw [again_drop hx b a]
theorem before_drop {bits : Nat} {r : Rd} {xs : List IV} {v : IV} {x : Nat × Hp} (hx : Nat.testBit bits x.1 = true) (b : List (Nat × Hp)) : ∀ a, seenBefore bits r xs v (a ++ x :: b) = seenBefore bits r xs v (a ++ b)
  | [] => by
    show cond (cond (Nat.testBit bits x.1) true _) (seenBefore bits r xs v b) false = _
    rw [hx]; rfl
  | y :: a => by
    show cond _ (seenBefore bits r xs v (a ++ x :: b)) false = cond _ (seenBefore bits r xs v (a ++ b)) false
    rw [before_drop hx b a]
theorem drop_looks (cf : CallF) (x : Seen) (b : List Seen) : ∀ (l : List IOper) (n : Nat) (a : List Seen) (old : List (Nat × Hp)) (τ : Fm) (h : Hp), needs x.place l = false → exDraw cf l n ⟨a ++ x :: b, old⟩ τ h = exDraw cf l n ⟨a ++ b, old⟩ τ h
  | [], _, _, _, _, _, _ => rfl
  | o :: r, n, a, old, τ, h, hn => by
    have hn : cond (Nat.testBit o.bits x.place) (needs x.place r) true = false := hn
    cases ht : Nat.testBit o.bits x.place with
    | false => rw [ht] at hn; cases hn
    | true =>
      rw [ht] at hn
      have hn : needs x.place r = false := hn
      have ih := drop_looks cf x b r
      have ih0 := fun n old τ h (y : Seen) => drop_looks cf x b r n (y :: a) old τ h hn
      rw [exDraw_cons, exDraw_cons]
      cases wantedI o.guard τ with
      | false => exact ih _ _ _ _ _ hn
      | true =>
        show drawThen (exDraw cf r (n + 1)) n o ⟨a ++ x :: b, old⟩ τ h (exOp cf o.op τ h) = drawThen (exDraw cf r (n + 1)) n o ⟨a ++ b, old⟩ τ h (exOp cf o.op τ h)
        cases exOp cf o.op τ h with
        | none => rfl
        | some y =>
          obtain ⟨v, h'⟩ := y
          unfold drawThen
          simp only []
          cases ho : o.op with
          | rd q xs =>
            simp only [drawSt, drawRd]
            cases isR q with
            | false => exact ih _ _ _ _ _ hn
            | true =>
              cases seenBefore o.bits q (evs τ xs) v old with
              | false => rfl
              | true => exact ih0 _ _ _ _ _
          | al al xs => exact ih _ _ _ _ _ hn
          | ef e xs =>
            simp only [drawSt, again_drop ht]
            cases seenAgain o.bits h' (a ++ b) with
            | false => rfl
            | true => exact ih _ _ _ _ _ hn
          | call f xs =>
            simp only [drawSt, again_drop ht]
            cases seenAgain o.bits h' (a ++ b) with
            | false => rfl
            | true => exact ih _ _ _ _ _ hn
          | bad =>
            simp only [drawSt, again_drop ht]
            cases seenAgain o.bits h' (a ++ b) with
            | false => rfl
            | true => exact ih _ _ _ _ _ hn
theorem drop_old (cf : CallF) (x : Nat × Hp) (b : List (Nat × Hp)) : ∀ (l : List IOper) (n : Nat) (looks : List Seen) (a : List (Nat × Hp)) (τ : Fm) (h : Hp), needs x.1 l = false → exDraw cf l n ⟨looks, a ++ x :: b⟩ τ h = exDraw cf l n ⟨looks, a ++ b⟩ τ h
  | [], _, _, _, _, _, _ => rfl
  | o :: r, n, looks, a, τ, h, hn => by
    have hn : cond (Nat.testBit o.bits x.1) (needs x.1 r) true = false := hn
    cases ht : Nat.testBit o.bits x.1 with
    | false => rw [ht] at hn; cases hn
    | true =>
      rw [ht] at hn
      have hn : needs x.1 r = false := hn
      have ih := drop_old cf x b r
      have ih0 := fun n looks τ h (y : Nat × Hp) => drop_old cf x b r n looks (y :: a) τ h hn
      rw [exDraw_cons, exDraw_cons]
      cases wantedI o.guard τ with
      | false => exact ih _ _ _ _ _ hn
      | true =>
        show drawThen (exDraw cf r (n + 1)) n o ⟨looks, a ++ x :: b⟩ τ h (exOp cf o.op τ h) = drawThen (exDraw cf r (n + 1)) n o ⟨looks, a ++ b⟩ τ h (exOp cf o.op τ h)
        cases exOp cf o.op τ h with
        | none => rfl
        | some y =>
          obtain ⟨v, h'⟩ := y
          unfold drawThen
          simp only []
          cases ho : o.op with
          | rd q xs =>
            simp only [drawSt, drawRd, before_drop ht]
            cases isR q with
            | false => exact ih _ _ _ _ _ hn
            | true =>
              cases seenBefore o.bits q (evs τ xs) v (a ++ b) with
              | false => rfl
              | true => exact ih _ _ _ _ _ hn
          | al al xs => exact ih _ _ _ _ _ hn
          | ef e xs =>
            simp only [drawSt]
            cases seenAgain o.bits h' looks with
            | false => rfl
            | true => exact ih0 _ _ _ _ _
          | call f xs =>
            simp only [drawSt]
            cases seenAgain o.bits h' looks with
            | false => rfl
            | true => exact ih0 _ _ _ _ _
          | bad =>
            simp only [drawSt]
            cases seenAgain o.bits h' looks with
            | false => rfl
            | true => exact ih0 _ _ _ _ _
theorem cond_looks (cf : CallF) {r : List IOper} {x : Seen} (b : List Seen) (m : Nat) (old : List (Nat × Hp)) (τ : Fm) (h : Hp) : exDraw cf r m ⟨cond (needs x.place r) (x :: b) b, old⟩ τ h = exDraw cf r m ⟨x :: b, old⟩ τ h := by
  cases c : needs x.place r with
  | true => rfl
  | false => exact (drop_looks cf x b r m [] old τ h c).symm
theorem cond_old (cf : CallF) {r : List IOper} {x : Nat × Hp} (b : List (Nat × Hp)) (m : Nat) (looks : List Seen) (τ : Fm) (h : Hp) : exDraw cf r m ⟨looks, cond (needs x.1 r) (x :: b) b⟩ τ h = exDraw cf r m ⟨looks, x :: b⟩ τ h := by
  cases c : needs x.1 r with
  | true => rfl
  | false => exact (drop_old cf x b r m looks [] τ h c).symm
theorem xDraw_eq (S : List LI) : ∀ (l : List IOper) (n : Nat) (looks : List Seen) (old : List (Nat × Hp)) (τ : Fm) (h : Hp), xDraw cf (fun τ h => runS cf rs S (.nrm τ h)) l n looks old τ h = runS cf rs S (exDraw cf l n ⟨looks, old⟩ τ h)
  | [], _, _, _, τ, h => rfl
  | o :: r, n, looks, old, τ, h => by
    have ih := xDraw_eq S r
    have key : xD cf (needs n r) o n looks old τ h (fun looks old v h' => xDraw cf (fun τ h => runS cf rs S (.nrm τ h)) r (n + 1) looks old (putd τ o.dst v) h') = runS cf rs S (drawThen (exDraw cf r (n + 1)) n o ⟨looks, old⟩ τ h (exOp cf o.op τ h)) := by
      unfold xD
      simp only [ih]
      cases ho : o.op with
      | rd q xs =>
        show (q.ev (evs τ xs) h).bind _ = runS cf rs S (drawThen (exDraw cf r (n + 1)) n o ⟨looks, old⟩ τ h (exRd q (evs τ xs) h))
        unfold exRd
        cases q.ev (evs τ xs) h with
        | none => exact (runS_fail S).symm
        | some v =>
          show cond (isR q) (cond (seenBefore o.bits q (evs τ xs) v old) _ none) _ = runS cf rs S (drawThen (exDraw cf r (n + 1)) n o ⟨looks, old⟩ τ h (some (v, h)))
          unfold drawThen
          simp only [ho]
          unfold drawSt
          simp only []
          unfold drawRd
          cases isR q with
          | false => rfl
          | true =>
            cases seenBefore o.bits q (evs τ xs) v old with
            | false => exact (runS_fail S).symm
            | true => exact congrArg (runS cf rs S) (cond_looks cf (x := ⟨n, q, evs τ xs, v⟩) looks (n + 1) old _ h)
      | al a xs =>
        show (a.ev (evs τ xs) h.next).bind _ = runS cf rs S (drawThen (exDraw cf r (n + 1)) n o ⟨looks, old⟩ τ h (exAl a (evs τ xs) h))
        unfold exAl
        cases a.ev (evs τ xs) h.next with
        | none => exact (runS_fail S).symm
        | some p =>
          obtain ⟨b, v⟩ := p
          simp only [Option.bind_some]
          unfold drawThen
          simp only [ho, drawSt]
      | ef e xs =>
        show (e.ev (evs τ xs) h).bind _ = runS cf rs S (drawThen (exDraw cf r (n + 1)) n o ⟨looks, old⟩ τ h (e.ev (evs τ xs) h))
        cases e.ev (evs τ xs) h with
        | none => exact (runS_fail S).symm
        | some p =>
          obtain ⟨v, h'⟩ := p
          simp only [Option.bind_some]
          unfold drawThen
          simp only [ho, drawSt]
          cases seenAgain o.bits h' looks with
          | false => exact (runS_fail S).symm
          | true => exact congrArg (runS cf rs S) (cond_old cf (x := (n, h)) old (n + 1) looks _ h')
      | call f xs =>
        show (exCall cf (f.ev τ) (evs τ xs) h).bind _ = runS cf rs S (drawThen (exDraw cf r (n + 1)) n o ⟨looks, old⟩ τ h (exCall cf (f.ev τ) (evs τ xs) h))
        cases exCall cf (f.ev τ) (evs τ xs) h with
        | none => exact (runS_fail S).symm
        | some p =>
          obtain ⟨v, h'⟩ := p
          simp only [Option.bind_some]
          unfold drawThen
          simp only [ho, drawSt]
          cases seenAgain o.bits h' looks with
          | false => exact (runS_fail S).symm
          | true => exact congrArg (runS cf rs S) (cond_old cf (x := (n, h)) old (n + 1) looks _ h')
      | bad => exact (runS_fail S).symm
    rw [exDraw_cons]
    show (match o.guard with
      | none => xD cf (needs n r) o n looks old τ h (fun looks old v h' => xDraw cf (fun τ h => runS cf rs S (.nrm τ h)) r (n + 1) looks old (putd τ o.dst v) h')
      | some (t, w) => xE cf (needs n r) (wantV w (Fm.at τ t)) o n looks old τ h (fun looks old v h' => xDraw cf (fun τ h => runS cf rs S (.nrm τ h)) r (n + 1) looks old (putd τ o.dst v) h')) = _
    cases hg : o.guard with
    | none => exact key
    | some g =>
      obtain ⟨t, w⟩ := g
      show xE cf _ _ o n looks old τ h _ = runS cf rs S (cond (wantV w (Fm.at τ t)) (drawThen (exDraw cf r (n + 1)) n o ⟨looks, old⟩ τ h (exOp cf o.op τ h)) (exDraw cf r (n + 1) ⟨looks, old⟩ (putd τ o.dst undefd) h))
      have push : ∀ (g : Bool) (x y : Out), runS cf rs S (cond g x y) = cond g (runS cf rs S x) (runS cf rs S y) := fun g x y => by cases g <;> rfl
      rw [push, ← key]
      unfold xE xD
      simp only [ih]
      cases ho : o.op with
      | rd q xs =>
        simp only []
        cases wantV w (Fm.at τ t) with
        | false => cases isR q <;> cases needs n r <;> rfl
        | true =>
          show ((q.ev (evs τ xs) h).bind _).bind _ = (q.ev (evs τ xs) h).bind _
          cases q.ev (evs τ xs) h with
          | none => rfl
          | some v =>
            simp only [Option.bind_some]
            cases isR q with
            | false => rfl
            | true => cases needs n r <;> cases seenBefore o.bits q (evs τ xs) v old <;> rfl
      | al a xs =>
        simp only []
        cases wantV w (Fm.at τ t) with
        | false => rfl
        | true =>
          show (exAl a (evs τ xs) h).bind _ = (a.ev (evs τ xs) h.next).bind _
          unfold exAl
          cases a.ev (evs τ xs) h.next <;> rfl
      | ef e xs =>
        simp only []
        cases wantV w (Fm.at τ t) with
        | false => cases needs n r <;> rfl
        | true =>
          show ((e.ev (evs τ xs) h).bind _).bind _ = (e.ev (evs τ xs) h).bind _
          cases e.ev (evs τ xs) h with
          | none => rfl
          | some p =>
            simp only [Option.bind_some]
            cases needs n r <;> cases seenAgain o.bits p.2 looks <;> rfl
      | call f xs =>
        simp only []
        cases wantV w (Fm.at τ t) with
        | false => cases needs n r <;> rfl
        | true =>
          show ((exCall cf (f.ev τ) (evs τ xs) h).bind _).bind _ = (exCall cf (f.ev τ) (evs τ xs) h).bind _
          cases exCall cf (f.ev τ) (evs τ xs) h with
          | none => rfl
          | some p =>
            simp only [Option.bind_some]
            cases needs n r <;> cases seenAgain o.bits p.2 looks <;> rfl
      | bad => cases wantV w (Fm.at τ t) <;> rfl

/-! What is looked at behind. -/
noncomputable def XS (F : List Pos) : List LI → (List Pos) × (Nat → List Pos)
  | [] => (F, fun _ => [])
  | .code b none :: S => (lv F b (XS F S).1 (XS F S).2, (XS F S).2)
  | .code _ (some (_, L)) :: S => (L, (XS F S).2)
  | .blk id :: S => ((XS F S).1, fun k => cond (Nat.beq k id) (XS F S).1 ((XS F S).2 k))
  | .loop _ L _ :: S => (L, (XS F S).2)
def okS (PL : List Pt) (F : List Pos) : List LI → Prop
  | [] => True
  | .code b lab :: S => lvOk F b (XS F S).1 (XS F S).2 = true ∧ (∀ p ∈ pts b S, p ∈ PL) ∧ (∀ j L, lab = some (j, L) → ⟨j, L, b, S⟩ ∈ PL ∧ ∀ q ∈ lv F b (XS F S).1 (XS F S).2, q ∈ L) ∧ okS PL F S
  | .blk _ :: S => okS PL F S
  | .loop j L b :: S => ⟨j, L, .loop j L b, S⟩ ∈ PL ∧ lvOk F (.loop j L b) (XS F S).1 (XS F S).2 = true ∧ okS PL F S

theorem leave_ag {τ τ' : Fm} {h : Hp} : ∀ {rs : List IRes} {k : List IV → R}, Ag (resP rs) τ τ' → leaveX τ h rs k = leaveX τ' h rs k
  | [], k, _ => rfl
  | .t n :: r, k, hA => by
    show leaveX τ h r _ = leaveX τ' h r _
    rw [hA n (by simp [resP]), leave_ag (hA.sub fun p hp => by simp [resP, hp])]
  | .cell a n :: r, k, hA => by
    show (evLd n h [Fm.at τ a]).bind _ = (evLd n h [Fm.at τ' a]).bind _
    rw [hA a (by simp [resP])]
    congr 1; funext v
    exact leave_ag (hA.sub fun p hp => by simp [resP, hp])
  | .cell1 a :: r, k, hA => by
    show (evLd1 h [Fm.at τ a]).bind _ = (evLd1 h [Fm.at τ' a]).bind _
    rw [hA a (by simp [resP])]
    congr 1; funext v
    exact leave_ag (hA.sub fun p hp => by simp [resP, hp])
theorem runS_ag {PL : List Pt} : ∀ {S : List LI} {o o' : Out}, okS PL (resP rs) S → OA (resP rs) (XS (resP rs) S).1 (XS (resP rs) S).2 o o' → runS cf rs S o = runS cf rs S o'
  | S, .ret τ h, .ret τ' h', _, k => by
    obtain ⟨rfl, k⟩ := k
    rw [runS_ret, runS_ret]; exact leave_ag k
  | S, .fail, .fail, _, _ => rfl
  | [], .nrm τ h, .nrm τ' h', _, k => by
    obtain ⟨rfl, k⟩ := k
    show leaveR rs τ h = leaveR rs τ' h
    exact leave_ag k
  | [], .exit _ _ _, .exit _ _ _, _, k => rfl
  | .code c none :: S, .nrm τ h, .nrm τ' h', ok, k => by
    obtain ⟨rfl, k⟩ := k
    exact runS_ag (S := S) (o := semW cf c.erase τ h) (o' := semW cf c.erase τ' h) ok.2.2.2 (semW_ag ok.1 k)
  | .code c (some (j, L)) :: S, .nrm τ h, .nrm τ' h', ok, k => by
    obtain ⟨rfl, k⟩ := k
    exact runS_ag (S := S) (o := semW cf c.erase τ h) (o' := semW cf c.erase τ' h) ok.2.2.2 (semW_ag ok.1 (k.sub (ok.2.2.1 j L rfl).2))
  | .code c none :: S, .exit i τ h, .exit i' τ' h', ok, k => by
    obtain ⟨rfl, rfl, k⟩ := k
    exact runS_ag (S := S) (o := .exit i τ h) (o' := .exit i τ' h) ok.2.2.2 ⟨rfl, rfl, k⟩
  | .code c (some (j, L)) :: S, .exit i τ h, .exit i' τ' h', ok, k => by
    obtain ⟨rfl, rfl, k⟩ := k
    exact runS_ag (S := S) (o := .exit i τ h) (o' := .exit i τ' h) ok.2.2.2 ⟨rfl, rfl, k⟩
  | .blk id :: S, .nrm τ h, .nrm τ' h', ok, k => by
    obtain ⟨rfl, k⟩ := k
    exact runS_ag (S := S) (o := .nrm τ h) (o' := .nrm τ' h) ok ⟨rfl, k⟩
  | .blk id :: S, .exit i τ h, .exit i' τ' h', ok, k => by
    obtain ⟨rfl, rfl, k⟩ := k
    have k : Ag (cond (Nat.beq i id) (XS (resP rs) S).1 ((XS (resP rs) S).2 i)) τ τ' := k
    show cond (Nat.beq i id) (runS cf rs S (.nrm τ h)) (runS cf rs S (.exit i τ h)) = cond (Nat.beq i id) (runS cf rs S (.nrm τ' h)) (runS cf rs S (.exit i τ' h))
    cases c : Nat.beq i id with
    | true => rw [c] at k; exact runS_ag (S := S) (o := .nrm τ h) (o' := .nrm τ' h) ok ⟨rfl, k⟩
    | false => rw [c] at k; exact runS_ag (S := S) (o := .exit i τ h) (o' := .exit i τ' h) ok ⟨rfl, rfl, k⟩
  | .loop j L b :: S, .nrm τ h, .nrm τ' h', ok, k => by
    obtain ⟨rfl, k⟩ := k
    exact runS_ag (S := S) (o := semW cf (LC.loop j L b).erase τ h) (o' := semW cf (LC.loop j L b).erase τ' h) ok.2.2 (semW_ag (c := .loop j L b) ok.2.1 k)
  | .loop j L b :: S, .exit i τ h, .exit i' τ' h', ok, k => by
    obtain ⟨rfl, rfl, k⟩ := k
    exact runS_ag (S := S) (o := .exit i τ h) (o' := .exit i τ' h) ok.2.2 ⟨rfl, rfl, k⟩

theorem frameL_at {τ : Fm} : ∀ {L : List Pos}, Ag L τ (frameL L (L.map (Fm.at τ)))
  | [] => fun p hp => by cases hp
  | q :: L => fun p hp => by
    show Fm.at τ p = Fm.at (PT.put (frameL L (L.map (Fm.at τ))) q (some (Fm.at τ q))) p
    by_cases e : p = q
    · subst e
      unfold Fm.at
      rw [PT.get_put_eq]; rfl
    · have : Fm.at (PT.put (frameL L (L.map (Fm.at τ))) q (some (Fm.at τ q))) p = Fm.at (frameL L (L.map (Fm.at τ))) p := by
        unfold Fm.at
        rw [PT.get_put_ne _ _ _ _ e]
      rw [this]
      rcases List.mem_cons.1 hp with h | h
      · exact absurd h e
      · exact frameL_at (L := L) p h

theorem E_seq (a b : LC) (lab : Option (Nat × List Pos)) (S : List LI) (τ : Fm) (h : Hp) : runS cf rs S (semW cf (.seq a.erase b.erase) τ h) = E cf rs a (.code b lab :: S) τ h := by
  rw [semW_seq]
  unfold E
  cases semW cf a.erase τ h with
  | nrm τ1 h1 => cases lab <;> rfl
  | ret τ1 h1 => show runS cf rs S (.ret τ1 h1) = _; rw [runS_ret, runS_ret]
  | exit k τ1 h1 => cases lab <;> rfl
  | fail => show runS cf rs S .fail = _; rw [runS_fail, runS_fail]
theorem E_loop (j : Nat) (L : List Pos) (b : LC) (S : List LI) (τ : Fm) (h : Hp) : E cf rs (.loop j L b) S τ h = E cf rs b (.loop j L b :: S) τ h := by
  unfold E
  show runS cf rs S (semW cf (.loop b.erase) τ h) = _
  rw [semW_loop]
  cases semW cf b.erase τ h with
  | nrm τ1 h1 => rfl
  | ret τ1 h1 => show runS cf rs S (.ret τ1 h1) = _; rw [runS_ret, runS_ret]
  | exit k τ1 h1 => rfl
  | fail => show runS cf rs S .fail = _; rw [runS_fail, runS_fail]

variable {PL : List Pt} {J : JF} (hJ : ∀ p ∈ PL, ∀ τ h, J p.j (p.L.map (Fm.at τ)) h = E cf rs p.c p.S τ h)
theorem popX_eq (hJ : ∀ p ∈ PL, ∀ τ h, J p.j (p.L.map (Fm.at τ)) h = E cf rs p.c p.S τ h) {x : LC → List LI → Fm → Hp → R} (hx : ∀ c S τ h, okS PL (resP rs) S → lvOk (resP rs) c (XS (resP rs) S).1 (XS (resP rs) S).2 = true → (∀ p ∈ pts c S, p ∈ PL) → x c S τ h = E cf rs c S τ h) :
    ∀ (S : List LI) (τ : Fm) (h : Hp), okS PL (resP rs) S → popX rs J x S τ h = runS cf rs S (.nrm τ h)
  | [], τ, h, _ => rfl
  | .code b none :: S, τ, h, ok => hx b S τ h ok.2.2.2 ok.1 ok.2.1
  | .code b (some (j, L)) :: S, τ, h, ok => hJ _ (ok.2.2.1 j L rfl).1 τ h
  | .blk _ :: S, τ, h, ok => popX_eq hJ hx S τ h ok
  | .loop j L b :: S, τ, h, ok => hJ _ ok.1 τ h
theorem popE_eq (hJ : ∀ p ∈ PL, ∀ τ h, J p.j (p.L.map (Fm.at τ)) h = E cf rs p.c p.S τ h) {x : LC → List LI → Fm → Hp → R} (hx : ∀ c S τ h, okS PL (resP rs) S → lvOk (resP rs) c (XS (resP rs) S).1 (XS (resP rs) S).2 = true → (∀ p ∈ pts c S, p ∈ PL) → x c S τ h = E cf rs c S τ h) (id : Nat) :
    ∀ (S : List LI) (τ : Fm) (h : Hp), okS PL (resP rs) S → popE rs J x id S τ h = runS cf rs S (.exit id τ h)
  | [], τ, h, _ => rfl
  | .code b _ :: S, τ, h, ok => popE_eq hJ hx id S τ h ok.2.2.2
  | .blk k :: S, τ, h, ok => by
    show cond (Nat.beq id k) (popX rs J x S τ h) (popE rs J x id S τ h) = cond (Nat.beq id k) _ _
    rw [popX_eq hJ hx S τ h ok, popE_eq hJ hx id S τ h ok]
  | .loop j L b :: S, τ, h, ok => popE_eq hJ hx id S τ h ok.2.2

theorem X_eq (hJ : ∀ p ∈ PL, ∀ τ h, J p.j (p.L.map (Fm.at τ)) h = E cf rs p.c p.S τ h) : ∀ (n : Nat) (c : LC) (S : List LI) (τ : Fm) (h : Hp), okS PL (resP rs) S → lvOk (resP rs) c (XS (resP rs) S).1 (XS (resP rs) S).2 = true → (∀ p ∈ pts c S, p ∈ PL) → X cf rs J n c S τ h = E cf rs c S τ h
  | 0, c, S, τ, h, _, _, _ => rfl
  | n + 1, c, S, τ, h, ok, lo, hp => by
    have ih := X_eq hJ n
    have hpop := popX_eq hJ ih S
    show stepX cf rs J (X cf rs J n) c S τ h = E cf rs c S τ h
    cases c with
    | skip =>
      unfold E
      show popX rs J (X cf rs J n) S τ h = runS cf rs S (semW cf .skip τ h)
      rw [semW_skip]; exact hpop τ h ok
    | ops l =>
      unfold E
      show xOps cf (popX rs J (X cf rs J n) S) l τ h = runS cf rs S (semW cf (.ops l) τ h)
      rw [semW_ops, ← xOps_eq]
      congr 1
      funext τ h; exact hpop τ h ok
    | draw l =>
      unfold E
      show xDraw cf (popX rs J (X cf rs J n) S) l 0 [] [] τ h = runS cf rs S (semW cf (.draw l) τ h)
      rw [semW_draw, ← xDraw_eq]
      congr 1
      funext τ h; exact hpop τ h ok
    | seq a b =>
      obtain ⟨o1, o2⟩ := cond_true (show cond (lvOk (resP rs) b (XS (resP rs) S).1 (XS (resP rs) S).2) (lvOk (resP rs) a (lv (resP rs) b (XS (resP rs) S).1 (XS (resP rs) S).2) (XS (resP rs) S).2) false = true from lo)
      show X cf rs J n a (.code b none :: S) τ h = runS cf rs S (semW cf (.seq a.erase b.erase) τ h)
      rw [E_seq a b none]
      exact ih a (.code b none :: S) τ h ⟨o1, fun p h => hp p (List.mem_append_right _ h), fun _ _ e => (by cases e), ok⟩ o2 (fun p h => hp p (List.mem_append_left _ h))
    | join j L a b =>
      obtain ⟨o0, o⟩ := cond_true (show cond (subP (lv (resP rs) b (XS (resP rs) S).1 (XS (resP rs) S).2) L) (cond (lvOk (resP rs) b (XS (resP rs) S).1 (XS (resP rs) S).2) (lvOk (resP rs) a L (XS (resP rs) S).2) false) false = true from lo)
      obtain ⟨o1, o2⟩ := cond_true o
      show X cf rs J n a (.code b (some (j, L)) :: S) τ h = runS cf rs S (semW cf (.seq a.erase b.erase) τ h)
      rw [E_seq a b (some (j, L))]
      exact ih a (.code b (some (j, L)) :: S) τ h ⟨o1, fun p h => hp p (List.mem_cons_of_mem _ (List.mem_append_right _ h)), fun _ _ e => (by cases e; exact ⟨hp _ (List.mem_cons_self ..), subP_mem o0⟩), ok⟩ o2 (fun p h => hp p (List.mem_cons_of_mem _ (List.mem_append_left _ h)))
    | cond o a b =>
      obtain ⟨o1, o2⟩ := cond_true (show _root_.cond (lvOk (resP rs) a (XS (resP rs) S).1 (XS (resP rs) S).2) (lvOk (resP rs) b (XS (resP rs) S).1 (XS (resP rs) S).2) false = true from lo)
      show condR (X cf rs J n a S τ h) (X cf rs J n b S τ h) (o.ev τ) = runS cf rs S (semW cf (.cond o a.erase b.erase) τ h)
      rw [semW_cond, ih a S τ h ok o1 (fun p h => hp p (List.mem_append_left _ h)), ih b S τ h ok o2 (fun p h => hp p (List.mem_append_right _ h))]
      generalize o.ev τ = v
      cases v with
      | b x => cases x <;> rfl
      | _ => exact (runS_fail S).symm
    | block id b =>
      show X cf rs J n b (.blk id :: S) τ h = runS cf rs S (semW cf (.block id b.erase) τ h)
      rw [semW_block, ih b (.blk id :: S) τ h ok lo hp]
      unfold E
      cases semW cf b.erase τ h with
      | nrm τ1 h1 => rfl
      | ret τ1 h1 => show _ = runS cf rs S (.ret τ1 h1); rw [runS_ret, runS_ret]
      | exit k τ1 h1 =>
        show _root_.cond (Nat.beq k id) _ _ = runS cf rs S (_root_.cond (Nat.beq k id) (.nrm τ1 h1) (.exit k τ1 h1))
        cases Nat.beq k id <;> rfl
      | fail => show _ = runS cf rs S .fail; rw [runS_fail, runS_fail]
    | loop j L b => exact hJ _ (hp _ (List.mem_cons_self ..)) τ h
    | exit id =>
      unfold E
      show popE rs J (X cf rs J n) id S τ h = runS cf rs S (semW cf (.exit id) τ h)
      rw [semW_exit]; exact popE_eq hJ ih id S τ h ok
    | ret =>
      unfold E
      show leaveR rs τ h = runS cf rs S (semW cf .ret τ h)
      rw [semW_ret, runS_ret]
    | bad =>
      unfold E
      show none = runS cf rs S (semW cf .bad τ h)
      have : semW cf .bad τ h = .fail := by
        by_cases c : semW cf .bad τ h = .fail
        · exact c
        · obtain ⟨N, hN⟩ := semW_inv rfl c
          rw [← hN]; rfl
      rw [this, runS_fail]
end
end Go.Fg
/- Code with names for the places where ways meet: calls. -/



namespace Go.Fg

theorem label_erase (F : List Pos) : ∀ (c : ICode) (n : Nat) (N : List Pos) (X : Nat → List Pos), (label F c n N X).1.erase = c
  | .skip, _, _, _ => rfl
  | .ops _, _, _, _ => rfl
  | .draw _, _, _, _ => rfl
  | .exit _, _, _, _ => rfl
  | .ret, _, _, _ => rfl
  | .bad, _, _, _ => rfl
  | .seq a b, n, N, X => by
    unfold label
    have hb := label_erase F b n N X
    simp only []
    split
    · show ICode.seq _ _ = _
      rw [label_erase F a, hb]
    · show ICode.seq _ _ = _
      rw [label_erase F a, hb]
  | .cond c a b, n, N, X => by
    unfold label
    show ICode.cond c _ _ = _
    rw [label_erase F a, label_erase F b]
  | .block id b, n, N, X => by
    unfold label
    show ICode.block id _ = _
    rw [label_erase F b]
  | .loop b, n, N, X => by
    unfold label
    show ICode.loop _ = _
    rw [label_erase F b]

theorem memN_iff {n : Nat} : ∀ {l : List Nat}, memN n l = true ↔ n ∈ l
  | [] => by show false = true ↔ _; simp
  | m :: l => by
    show cond (Nat.beq n m) true (memN n l) = true ↔ _
    rw [List.mem_cons]
    by_cases e : n = m
    · subst e; simp
    · rw [beq_no e]; show memN n l = true ↔ _; rw [memN_iff]; simp [e]
theorem nodupN_iff : ∀ {l : List Nat}, nodupN l = true → l.Nodup
  | [], _ => List.nodup_nil
  | m :: l, h => by
    have h : cond (memN m l) false (nodupN l) = true := h
    cases c : memN m l with
    | true => rw [c] at h; cases h
    | false =>
      rw [c] at h
      refine List.nodup_cons.2 ⟨fun hm => ?_, nodupN_iff h⟩
      rw [memN_iff.2 hm] at c; cases c
theorem findPt_cons (j : Nat) (p : Pt) (l : List Pt) : findPt j (p :: l) = cond (Nat.beq p.j j) (some p) (findPt j l) := rfl
theorem findPt_mem {j : Nat} {p : Pt} : ∀ {l : List Pt}, findPt j l = some p → p ∈ l ∧ p.j = j
  | [], h => by cases h
  | q :: l, h => by
    rw [findPt_cons] at h
    cases c : Nat.beq q.j j with
    | true => rw [c] at h; cases h; exact ⟨List.mem_cons_self .., Nat.eq_of_beq_eq_true c⟩
    | false => rw [c] at h; obtain ⟨a, b⟩ := findPt_mem (l := l) h; exact ⟨List.mem_cons_of_mem _ a, b⟩
theorem findPt_some {p : Pt} : ∀ {l : List Pt}, (l.map (·.j)).Nodup → p ∈ l → findPt p.j l = some p
  | [], _, h => by cases h
  | q :: l, hn, h => by
    rw [findPt_cons]
    rw [List.map_cons, List.nodup_cons] at hn
    rcases List.mem_cons.1 h with rfl | h
    · rw [Nat.beq_refl]; rfl
    · have : q.j ≠ p.j := fun e => hn.1 (by rw [e]; exact List.mem_map_of_mem h)
      rw [beq_no this]
      exact findPt_some hn.2 h

section
variable {cf : CallF} {rs : List IRes}
theorem pts_ok {PL : List Pt} : ∀ (c : LC) (S : List LI), okS PL (resP rs) S → lvOk (resP rs) c (XS (resP rs) S).1 (XS (resP rs) S).2 = true → (∀ p ∈ pts c S, p ∈ PL) →
    ∀ p ∈ pts c S, okS PL (resP rs) p.S ∧ lvOk (resP rs) p.c (XS (resP rs) p.S).1 (XS (resP rs) p.S).2 = true ∧ (∀ q ∈ pts p.c p.S, q ∈ PL) ∧ (∀ q ∈ lv (resP rs) p.c (XS (resP rs) p.S).1 (XS (resP rs) p.S).2, q ∈ p.L)
  | .skip, S, _, _, _, p, hp => by cases hp
  | .ops _, S, _, _, _, p, hp => by cases hp
  | .draw _, S, _, _, _, p, hp => by cases hp
  | .exit _, S, _, _, _, p, hp => by cases hp
  | .ret, S, _, _, _, p, hp => by cases hp
  | .bad, S, _, _, _, p, hp => by cases hp
  | .seq a b, S, ok, lo, hs, p, hp => by
    obtain ⟨o1, o2⟩ := cond_true (show cond (lvOk (resP rs) b (XS (resP rs) S).1 (XS (resP rs) S).2) (lvOk (resP rs) a (lv (resP rs) b (XS (resP rs) S).1 (XS (resP rs) S).2) (XS (resP rs) S).2) false = true from lo)
    have hs1 : ∀ p ∈ pts a (.code b none :: S), p ∈ PL := fun p h => hs p (List.mem_append_left _ h)
    have hs2 : ∀ p ∈ pts b S, p ∈ PL := fun p h => hs p (List.mem_append_right _ h)
    rcases List.mem_append.1 hp with hp | hp
    · exact pts_ok a (.code b none :: S) ⟨o1, hs2, fun _ _ e => (by cases e), ok⟩ o2 hs1 p hp
    · exact pts_ok b S ok o1 hs2 p hp
  | .join j L a b, S, ok, lo, hs, p, hp => by
    obtain ⟨o0, o⟩ := cond_true (show cond (subP (lv (resP rs) b (XS (resP rs) S).1 (XS (resP rs) S).2) L) (cond (lvOk (resP rs) b (XS (resP rs) S).1 (XS (resP rs) S).2) (lvOk (resP rs) a L (XS (resP rs) S).2) false) false = true from lo)
    obtain ⟨o1, o2⟩ := cond_true o
    have hs0 : ⟨j, L, b, S⟩ ∈ PL := hs _ (List.mem_cons_self ..)
    have hs1 : ∀ p ∈ pts a (.code b (some (j, L)) :: S), p ∈ PL := fun p h => hs p (List.mem_cons_of_mem _ (List.mem_append_left _ h))
    have hs2 : ∀ p ∈ pts b S, p ∈ PL := fun p h => hs p (List.mem_cons_of_mem _ (List.mem_append_right _ h))
    rcases List.mem_cons.1 hp with rfl | hp
    · exact ⟨ok, o1, hs2, subP_mem o0⟩
    · rcases List.mem_append.1 hp with hp | hp
      · exact pts_ok a (.code b (some (j, L)) :: S) ⟨o1, hs2, fun _ _ e => (by cases e; exact ⟨hs0, subP_mem o0⟩), ok⟩ o2 hs1 p hp
      · exact pts_ok b S ok o1 hs2 p hp
  | .cond c a b, S, ok, lo, hs, p, hp => by
    obtain ⟨o1, o2⟩ := cond_true (show cond (lvOk (resP rs) a (XS (resP rs) S).1 (XS (resP rs) S).2) (lvOk (resP rs) b (XS (resP rs) S).1 (XS (resP rs) S).2) false = true from lo)
    have hs1 : ∀ p ∈ pts a S, p ∈ PL := fun p h => hs p (List.mem_append_left _ h)
    have hs2 : ∀ p ∈ pts b S, p ∈ PL := fun p h => hs p (List.mem_append_right _ h)
    rcases List.mem_append.1 hp with hp | hp
    · exact pts_ok a S ok o1 hs1 p hp
    · exact pts_ok b S ok o2 hs2 p hp
  | .block id b, S, ok, lo, hs, p, hp => pts_ok b (.blk id :: S) ok lo hs p hp
  | .loop j L b, S, ok, lo, hs, p, hp => by
    obtain ⟨o0, o1⟩ := cond_true (show cond (subP (lv (resP rs) b L (XS (resP rs) S).2) L) (lvOk (resP rs) b L (XS (resP rs) S).2) false = true from lo)
    have hs0 : ⟨j, L, .loop j L b, S⟩ ∈ PL := hs _ (List.mem_cons_self ..)
    rcases List.mem_cons.1 hp with rfl | hp
    · exact ⟨ok, lo, hs, fun q hq => hq⟩
    · exact pts_ok b (.loop j L b :: S) ⟨hs0, lo, ok⟩ o1 (fun p h => hs p (List.mem_cons_of_mem _ h)) p hp

variable {f : LFn} (ok : okFn f = true)
theorem okFn_lv (ok : okFn f = true) : lvOk (resP f.res) f.code (XS (resP f.res) []).1 (XS (resP f.res) []).2 = true := (cond_true (show cond _ _ false = true from ok)).1
theorem okFn_nodup (ok : okFn f = true) : ((pts f.code []).map (·.j)).Nodup := nodupN_iff (cond_true (show cond _ _ false = true from ok)).2
theorem J_pts (ok : okFn f = true) : ∀ p ∈ pts f.code [], ∀ τ h, J cf f p.j (p.L.map (Fm.at τ)) h = E cf f.res p.c p.S τ h := by
  intro p hp τ h
  unfold J
  rw [findPt_some (okFn_nodup ok) hp]
  obtain ⟨k1, k2, k3, k4⟩ := pts_ok (rs := f.res) (PL := pts f.code []) f.code [] trivial (okFn_lv ok) (fun _ h => h) p hp
  unfold E
  exact (runS_ag k1 (semW_ag k2 (frameL_at.sub k4))).symm
/-- EACH PLACE DOES WHAT ITS EXPRESSION SAYS. -/
theorem J_eq (ok : okFn f = true) (j : Nat) (vs : List IV) (h : Hp) : J cf f j vs h = XJ cf f j vs h := by
  unfold XJ
  cases hf : findPt j (pts f.code []) with
  | none => unfold J; rw [hf]
  | some p =>
    obtain ⟨hp, rfl⟩ := findPt_mem hf
    obtain ⟨k1, k2, k3, k4⟩ := pts_ok (rs := f.res) (PL := pts f.code []) f.code [] trivial (okFn_lv ok) (fun _ h => h) p hp
    have hJ := J_pts (cf := cf) ok
    have plain : X cf f.res (J cf f) 100000 p.c p.S (frameL p.L vs) h = E cf f.res p.c p.S (frameL p.L vs) h := X_eq hJ 100000 p.c p.S _ h k1 k2 k3
    have e1 : J cf f p.j vs h = E cf f.res p.c p.S (frameL p.L vs) h := by unfold J; rw [hf]
    rw [e1]
    show _ = XP cf f p (frameL p.L vs) h
    unfold XP
    cases hc : p.c with
    | loop j L b =>
      rw [hc] at k2 k3
      obtain ⟨o0, o1⟩ := cond_true (show cond (subP (lv (resP f.res) b L (XS (resP f.res) p.S).2) L) (lvOk (resP f.res) b L (XS (resP f.res) p.S).2) false = true from k2)
      rw [E_loop]
      exact (X_eq hJ 100000 b (.loop j L b :: p.S) _ h ⟨k3 _ (List.mem_cons_self ..), k2, k1⟩ o1 (fun q hq => k3 q (List.mem_cons_of_mem _ hq))).symm
    | _ => rw [hc] at plain; exact plain.symm
theorem X0_eq (ok : okFn f = true) (args : List IV) (h : Hp) : X0 cf f args h = E cf f.res f.code [] (frameOf args .h .nil) h :=
  X_eq (J_pts ok) 100000 f.code [] _ h trivial (okFn_lv ok) (fun _ h => h)
end
theorem runW_eq {cf : CallF} {fn : IFn} (ok : okFn (labFn fn) = true) (args : List IV) (h : Hp) : runW cf fn args h = X0 cf (labFn fn) args h := by
  rw [X0_eq ok]
  unfold runW E
  have : (labFn fn).code.erase = fn.body := label_erase _ _ _ _ _
  rw [this]
  show leaveI fn.res _ = runS cf fn.res [] _
  cases semW cf fn.body (frameOf args .h .nil) h with
  | nrm τ h => exact (leaveR_eq _ _ _).symm
  | ret τ h => rw [runS_ret]; exact (leaveR_eq _ _ _).symm
  | exit _ _ _ => rfl
  | fail => rfl

/-! ### A program's functions, by their numbers -/
section
variable (P : Program) (Z : Nat → Oper → Bool)
noncomputable def tab : Pos → Option IFn := fun p => cond (Nat.ble p.num 1000000) (compFn P Z (p.num - 1)) none
noncomputable def lfn (k : Nat) : LFn := match compFn P Z k with
  | some f => labFn f
  | none => ⟨[], .bad⟩
noncomputable def okN (k : Nat) : Bool := match compFn P Z k with
  | some f => cond (Nat.blt k 1000000) (okFn (labFn f)) false
  | none => false
variable {P Z}
theorem tab_ok : ∀ n f, n < 1000000 → tab P Z (pos n) = some f → compFn P Z n = some f := by
  intro n f hn h
  unfold tab at h
  obtain ⟨h1, h2⟩ := cond_some h
  rwa [num_pos hn, Nat.add_sub_cancel] at h2
theorem tab_pos {k : Nat} (hk : k < 1000000) : tab P Z (pos k) = compFn P Z k := by
  unfold tab
  rw [num_pos hk, Nat.add_sub_cancel, Nat.ble_eq_true_of_le (by omega)]
  rfl
theorem okN_inv {k : Nat} (h : okN P Z k = true) : ∃ fn, tab P Z (pos k) = some fn ∧ lfn P Z k = labFn fn ∧ okFn (labFn fn) = true ∧ okFn (lfn P Z k) = true ∧ k < 1000000 := by
  unfold okN at h
  split at h
  · rename_i f hf
    obtain ⟨h1, h2⟩ := cond_true h
    have hk : k < 1000000 := by rwa [Nat.blt_eq] at h1
    have e : lfn P Z k = labFn f := by unfold lfn; rw [hf]
    exact ⟨f, by rw [tab_pos hk]; exact hf, e, h2, by rw [e]; exact h2, hk⟩
  · cases h
variable {pl : Pos → List IV → Option IV} {imp : Pos → Bool}
/-- A call that sees what no one writes any more. -/
theorem call_pure {k : Nat} {args args' : List IV} {h h1 h2 h3 : Hp} {r r' : IV} (ok : okN P Z k = true) (hi : imp (pos k) = false) (ha : frzs h args = some (args', h1)) (hp : pl (pos k) args' = none)
    (e : X0 (W pl imp (tab P Z)) (lfn P Z k) args' Hp.empty = some (r, h2)) (hr : frz h2 r = some (r', h3)) : W pl imp (tab P Z) (pos k) args h = some (r', h1) := by
  obtain ⟨fn, h1, h2, h3, h4, _⟩ := okN_inv ok
  refine W_pure hi h1 ha hp ?_ hr
  rw [runW_eq h3, ← h2]; exact e
theorem call_imp {k : Nat} {args : List IV} {h : Hp} {r : IV × Hp} (ok : okN P Z k = true) (hi : imp (pos k) = true) (e : X0 (W pl imp (tab P Z)) (lfn P Z k) args h = some r) : W pl imp (tab P Z) (pos k) args h = some r := by
  obtain ⟨fn, h1, h2, h3, h4, _⟩ := okN_inv ok
  refine W_imp hi h1 ?_
  rw [runW_eq h3, ← h2]; exact e
theorem place {k : Nat} (ok : okN P Z k = true) (cf : CallF) (j : Nat) (vs : List IV) (h : Hp) : J cf (lfn P Z k) j vs h = XJ cf (lfn P Z k) j vs h := by
  obtain ⟨fn, h1, h2, h3, h4, _⟩ := okN_inv ok
  exact J_eq h4 j vs h
end
end Go.Fg
/- What the ideal machine's operations give, in plain words. -/


namespace Go.Fg

def bl (v : IV) (h : Hp) (k : IV → Hp → R) : R := k v h
@[simp] theorem bl_eq (v : IV) (h : Hp) (k : IV → Hp → R) : bl v h k = k v h := rfl
attribute [simp] lenN_eq takeN_eq dropN_eq nth_eq app_eq
@[simp] theorem cells_b (x : Bool) : IV.cells (.b x) = [.b x] := rfl
@[simp] theorem cells_i (k : IntKind) (n : Int) : IV.cells (.i k n) = [.i k n] := rfl
@[simp] theorem cells_s (l : List Nat) : IV.cells (.s l) = [.s l] := rfl
@[simp] theorem cells_p (b : Pos) (o : Nat) : IV.cells (.p b o) = [.p b o] := rfl
@[simp] theorem cells_pn : IV.cells .pn = [.pn] := rfl
@[simp] theorem cells_sl (b : Pos) (o n c z : Nat) : IV.cells (.sl b o n c z) = [.sl b o n c z] := rfl
@[simp] theorem cells_sn : IV.cells .sn = [.sn] := rfl
@[simp] theorem cells_m (r : Pos) : IV.cells (.m r) = [.m r] := rfl
@[simp] theorem cells_mn : IV.cells .mn = [.mn] := rfl
@[simp] theorem cells_f (f : Pos) (l : List IV) : IV.cells (.f f l) = [.f f l] := rfl
@[simp] theorem cells_agg (l : List IV) : IV.cells (.agg l) = l := rfl
@[simp] theorem cells_pi (l : List IV) : IV.cells (.pi l) = [.pi l] := rfl
@[simp] theorem cells_sli (l : List (List IV)) : IV.cells (.sli l) = [.sli l] := rfl
@[simp] theorem cells_mi (l m : List IV) : IV.cells (.mi l m) = [.mi l m] := rfl
@[simp] theorem atom_b (x : Bool) : isAtomV (.b x) = true := rfl
@[simp] theorem atom_i (k : IntKind) (n : Int) : isAtomV (.i k n) = true := rfl
@[simp] theorem atom_s (l : List Nat) : isAtomV (.s l) = true := rfl
@[simp] theorem atom_p (b : Pos) (o : Nat) : isAtomV (.p b o) = true := rfl
@[simp] theorem atom_pn : isAtomV .pn = true := rfl
@[simp] theorem atom_sl (b : Pos) (o n c z : Nat) : isAtomV (.sl b o n c z) = true := rfl
@[simp] theorem atom_sn : isAtomV .sn = true := rfl
@[simp] theorem atom_m (r : Pos) : isAtomV (.m r) = true := rfl
@[simp] theorem atom_f (f : Pos) (l : List IV) : isAtomV (.f f l) = true := rfl
@[simp] theorem atom_pi (l : List IV) : isAtomV (.pi l) = true := rfl
@[simp] theorem atom_sli (l : List (List IV)) : isAtomV (.sli l) = true := rfl
@[simp] theorem atom_mi (l m : List IV) : isAtomV (.mi l m) = true := rfl
attribute [simp] allAtoms_eq

/-! Names and memory. -/
@[simp] theorem empty_next : Hp.empty.next = .h := rfl
attribute [simp] Hp.next_new Hp.next_set Hp.next_kill Pos.nxt_h Pos.nxt_o Pos.nxt_i
@[simp] theorem get_empty (b : Pos) : Hp.empty.get b = none := rfl
@[simp] theorem get_new (h : Hp) (x : Blk) (b : Pos) : (h.new x).get b = if b = h.next then some x else h.get b := by
  split
  · rename_i e; subst e; exact Hp.get_new_eq _ _
  · exact Hp.get_new_ne _ _ ‹_›
@[simp] theorem get_set (h : Hp) (c : Pos) (x : Blk) (b : Pos) : (h.set c x).get b = if b = c then some x else h.get b := by
  split
  · rename_i e; subst e; exact Hp.get_set_eq _ _ _
  · exact Hp.get_set_ne _ _ ‹_›
@[simp] theorem get_kill (h : Hp) (c b : Pos) : (h.kill c).get b = if b = c then none else h.get b := by
  split
  · rename_i e; subst e; exact Hp.get_kill_eq _ _
  · exact Hp.get_kill_ne _ ‹_›
@[simp] theorem cellsOf_cells (n : Nat) (l : List IV) : cellsOf (some (.cells n l)) = some (n, l) := rfl
@[simp] theorem cellsOf_rc (n : Nat) (l : List IV) : cellsOf (some (.rc n l)) = some (n, l) := rfl
@[simp] theorem cellsW_cells (n : Nat) (l : List IV) : cellsW (some (.cells n l)) = some (n, l) := rfl
@[simp] theorem mapOf_map (es : List IEnt) (c : Nat) : mapOf (some (.map es c)) = some (es, c) := rfl
@[simp] theorem mapOf_rm (es : List IEnt) (c : Nat) : mapOf (some (.rm es c)) = some (es, c) := rfl
@[simp] theorem mapW_map (es : List IEnt) (c : Nat) : mapW (some (.map es c)) = some (es, c) := rfl
theorem read_eq {h : Hp} {b : Pos} {m : Nat} {l : List IV} (e : cellsOf (h.get b) = some (m, l)) (o n : Nat) : h.read b o n = if o + n ≤ m then some (if n = m then l else (l.drop o).take n) else none := by
  unfold Hp.read Hp.cells
  rw [e]
  simp only []
  by_cases c : o + n ≤ m
  · rw [Nat.ble_eq_true_of_le c, if_pos c]
    show some _ = some _
    by_cases d : n = m
    · subst d; rw [Nat.beq_refl, if_pos rfl]; rfl
    · rw [beq_no d, if_neg d]; show some (takeN n (dropN o l)) = _; rw [takeN_eq, dropN_eq]
  · rw [ble_no c, if_neg c]; rfl
@[simp] theorem read_new (h : Hp) (n : Nat) (l : List IV) (b : Pos) (o k : Nat) : (h.new (.cells n l)).read b o k = if b = h.next then (if o + k ≤ n then some (if k = n then l else (l.drop o).take k) else none) else h.read b o k := by
  split
  · rename_i e; subst e; exact read_eq (by simp) o k
  · rename_i e; unfold Hp.read Hp.cells; rw [get_new, if_neg e]
@[simp] theorem read_newm (h : Hp) (es : List IEnt) (c : Nat) (b : Pos) (o k : Nat) (e : b ≠ h.next) : (h.new (.map es c)).read b o k = h.read b o k := by
  unfold Hp.read Hp.cells; rw [get_new, if_neg e]
@[simp] theorem read_set (h : Hp) (n : Nat) (l : List IV) (c b : Pos) (o k : Nat) : (h.set c (.cells n l)).read b o k = if b = c then (if o + k ≤ n then some (if k = n then l else (l.drop o).take k) else none) else h.read b o k := by
  split
  · rename_i e; subst e; exact read_eq (by simp) o k
  · rename_i e; unfold Hp.read Hp.cells; rw [get_set, if_neg e]
@[simp] theorem read_setm (h : Hp) (es : List IEnt) (m : Nat) (c b : Pos) (o k : Nat) (e : b ≠ c) : (h.set c (.map es m)).read b o k = h.read b o k := by
  unfold Hp.read Hp.cells; rw [get_set, if_neg e]
theorem read1_eq {h : Hp} {b : Pos} {m : Nat} {l : List IV} (e : cellsOf (h.get b) = some (m, l)) (o : Nat) : h.read1 b o = l[o]? := by
  unfold Hp.read1 Hp.cells
  rw [e]
  exact nth_eq _ _
@[simp] theorem read1_new (h : Hp) (n : Nat) (l : List IV) (b : Pos) (o : Nat) : (h.new (.cells n l)).read1 b o = if b = h.next then l[o]? else h.read1 b o := by
  split
  · rename_i e; subst e; exact read1_eq (m := n) (by simp) o
  · rename_i e; unfold Hp.read1 Hp.cells; rw [get_new, if_neg e]
@[simp] theorem read1_newm (h : Hp) (es : List IEnt) (c : Nat) (b : Pos) (o : Nat) (e : b ≠ h.next) : (h.new (.map es c)).read1 b o = h.read1 b o := by
  unfold Hp.read1 Hp.cells; rw [get_new, if_neg e]
@[simp] theorem read1_set (h : Hp) (n : Nat) (l : List IV) (c b : Pos) (o : Nat) : (h.set c (.cells n l)).read1 b o = if b = c then l[o]? else h.read1 b o := by
  split
  · rename_i e; subst e; exact read1_eq (m := n) (by simp) o
  · rename_i e; unfold Hp.read1 Hp.cells; rw [get_set, if_neg e]
@[simp] theorem read1_setm (h : Hp) (es : List IEnt) (m : Nat) (c b : Pos) (o : Nat) (e : b ≠ c) : (h.set c (.map es m)).read1 b o = h.read1 b o := by
  unfold Hp.read1 Hp.cells; rw [get_set, if_neg e]
theorem write_eq {h : Hp} {b : Pos} {m : Nat} {l : List IV} (e : cellsW (h.get b) = some (m, l)) (o n : Nat) (vs : List IV) : h.write b o n vs = if o + n ≤ m then some (h.set b (.cells m (if n = m then vs else layAt o vs l))) else none := by
  unfold Hp.write
  rw [e]
  simp only []
  by_cases c : o + n ≤ m
  · rw [Nat.ble_eq_true_of_le c, if_pos c]
    show some _ = some _
    by_cases d : n = m
    · subst d; rw [Nat.beq_refl, if_pos rfl]; rfl
    · rw [beq_no d, if_neg d]; rfl
  · rw [ble_no c, if_neg c]; rfl

/-! Looks. -/
@[simp] theorem evMv_eq (x : IV) : evMv [x] = some x := rfl
@[simp] theorem evPick_eq (c : Bool) (x y : IV) : evPick [.b c, x, y] = some (cond c x y) := by cases c <;> rfl
@[simp] theorem evLd_p (n : Nat) (h : Hp) (b : Pos) (o : Nat) : evLd n h [.p b o] = (h.read b o n).map .agg := by
  show (match h.read b o n with | some l => some (IV.agg l) | none => none) = _
  cases h.read b o n <;> rfl
@[simp] theorem evLd_pi (n : Nat) (h : Hp) (l : List IV) : evLd n h [.pi l] = if n ≤ l.length then some (.agg (l.take n)) else none := by
  show cond (Nat.ble n l.length) _ none = _
  by_cases c : n ≤ l.length
  · rw [Nat.ble_eq_true_of_le c, if_pos c]; rfl
  · rw [ble_no c, if_neg c]; rfl
@[simp] theorem evLd1_p (h : Hp) (b : Pos) (o : Nat) : evLd1 h [.p b o] = h.read1 b o := rfl
@[simp] theorem evLd1_pi (h : Hp) (l : List IV) : evLd1 h [.pi l] = l[0]? := rfl
@[simp] theorem evNilck_p (b : Pos) (o : Nat) : evNilck [.p b o] = some (.p b o) := rfl
@[simp] theorem evNilck_pi (l : List IV) : evNilck [.pi l] = some (.pi l) := rfl
@[simp] theorem evNilck_f (f : Pos) (l : List IV) : evNilck [.f f l] = some (.f f l) := rfl
@[simp] theorem evFa_p (n : Nat) (b : Pos) (o : Nat) : evFa n [.p b o] = some (.p b (o + n)) := rfl
@[simp] theorem evFa_pi (n : Nat) (l : List IV) : evFa n [.pi l] = some (.pi (l.drop n)) := rfl
@[simp] theorem evFld1_eq (n : Nat) (l : List IV) : evFld1 n [.agg l] = l[n]? := nth_eq _ _
@[simp] theorem evFld_eq (o n : Nat) (l : List IV) : evFld o n [.agg l] = if o + n ≤ l.length then some (.agg ((l.drop o).take n)) else none := by
  show (match takeCells l o n with | some c => some (IV.agg c) | none => none) = _
  unfold takeCells
  rw [lenN_eq, takeN_eq, dropN_eq]
  by_cases c : o + n ≤ l.length
  · rw [Nat.ble_eq_true_of_le c, if_pos c]; rfl
  · rw [ble_no c, if_neg c]; rfl
theorem evIa_sli {z : Nat} {es : List (List IV)} {k : IntKind} {i : Nat} {e : List IV} (h : es[i]? = some e) (hz : e.length = z) : evIa z [.sli es, .i k (i : Int)] = some (.pi e) := by
  show (match es[i]? with | some e => cond (Nat.beq e.length z) (some (IV.pi e)) none | none => none) = _
  rw [h]
  show cond (Nat.beq e.length z) _ none = _
  rw [hz, Nat.beq_refl]; rfl
theorem evIa_sl {z : Nat} {b : Pos} {o n c : Nat} {k : IntKind} {i : Nat} (h : i < n) : evIa z [.sl b o n c z, .i k (i : Int)] = some (.p b (o + i * z)) := by
  show cond (Nat.blt i n && Nat.beq z z) _ none = _
  have : Nat.blt i n = true := by rw [Nat.blt_eq]; exact h
  rw [this, Nat.beq_refl]; rfl
@[simp] theorem evLens_sli (es : List (List IV)) : evLens [.sli es] = some (.i .i64 es.length) := rfl
@[simp] theorem evLens_sl (b : Pos) (o n c z : Nat) : evLens [.sl b o n c z] = some (.i .i64 n) := rfl
@[simp] theorem evLens_sn : evLens [.sn] = some (.i .i64 0) := rfl
@[simp] theorem evLenstr_eq (l : List Nat) : evLenstr [.s l] = some (.i .i64 l.length) := rfl
theorem evIxs_eq {l : List Nat} {i c : Nat} {k : IntKind} (h : l[i]? = some c) : evIxs [.s l, .i k (i : Int)] = some (.i .u8 c) := by
  show (match l[i]? with | some c => some (IV.i .u8 (Int.ofNat c)) | none => none) = _
  rw [h]; rfl
@[simp] theorem evNot_eq (x : Bool) : evNot [.b x] = some (.b (!x)) := rfl
@[simp] theorem kEq_self (k : IntKind) : kEq k k = true := (kEq_iff k k).2 rfl
@[simp] theorem evBin_lss (k : IntKind) (x y : Int) : evBin .lss [.i k x, .i k y] = some (.b (decide (x < y))) := by
  show cond (kEq k k) (some (IV.b (notB (ile y x)))) none = _
  rw [kEq_self, ile_eq, notB_eq]
  show some (IV.b (!decide (y ≤ x))) = _
  rw [← decide_not]; congr 2; simp
@[simp] theorem evBin_leq (k : IntKind) (x y : Int) : evBin .leq [.i k x, .i k y] = some (.b (decide (x ≤ y))) := by
  show cond (kEq k k) (some (IV.b (ile x y))) none = _
  rw [kEq_self, ile_eq]; rfl
@[simp] theorem evBin_gtr (k : IntKind) (x y : Int) : evBin .gtr [.i k x, .i k y] = some (.b (decide (y < x))) := by
  show cond (kEq k k) (some (IV.b (notB (ile x y)))) none = _
  rw [kEq_self, ile_eq, notB_eq]
  show some (IV.b (!decide (x ≤ y))) = _
  rw [← decide_not]; congr 2; simp
@[simp] theorem evBin_geq (k : IntKind) (x y : Int) : evBin .geq [.i k x, .i k y] = some (.b (decide (y ≤ x))) := by
  show cond (kEq k k) (some (IV.b (ile y x))) none = _
  rw [kEq_self, ile_eq]; rfl
@[simp] theorem evBin_eql (k : IntKind) (x y : Int) : evBin .eql [.i k x, .i k y] = some (.b (decide (x = y))) := by
  show cond (kEq k k) (some (IV.b (ieq x y))) none = _
  rw [kEq_self, ieq_eq]; rfl
@[simp] theorem evBin_neq (k : IntKind) (x y : Int) : evBin .neq [.i k x, .i k y] = some (.b (!decide (x = y))) := by
  show cond (kEq k k) (some (IV.b (notB (ieq x y)))) none = _
  rw [kEq_self, ieq_eq, notB_eq]; rfl
@[simp] theorem evBin_add (k : IntKind) (x y : Int) : evBin .add [.i k x, .i k y] = some (.i k (k.wrap (x + y))) := by
  show cond (kEq k k) (some (IV.i k (wrapI k (iadd x y)))) none = _
  rw [kEq_self, wrapI_eq, iadd_eq]; rfl
@[simp] theorem evBin_sub (k : IntKind) (x y : Int) : evBin .sub [.i k x, .i k y] = some (.i k (k.wrap (x - y))) := by
  show cond (kEq k k) (some (IV.i k (wrapI k (isub x y)))) none = _
  rw [kEq_self, wrapI_eq, isub_eq]; rfl
@[simp] theorem evBin_mul (k : IntKind) (x y : Int) : evBin .mul [.i k x, .i k y] = some (.i k (k.wrap (x * y))) := by
  show cond (kEq k k) (some (IV.i k (wrapI k (x * y)))) none = _
  rw [kEq_self, wrapI_eq]; rfl
theorem evBin_quo (k : IntKind) (x : Int) {y : Int} (h : y ≠ 0) : evBin .quo [.i k x, .i k y] = some (.i k (k.wrap (x.tdiv y))) := by
  show cond (kEq k k) (cond (ieq y 0) none (some (IV.i k (wrapI k (x.tdiv y))))) none = _
  have : ieq y 0 = false := by rw [ieq_eq]; simpa using h
  rw [kEq_self, this, wrapI_eq]; rfl
theorem evBin_rem (k : IntKind) (x : Int) {y : Int} (h : y ≠ 0) : evBin .rem [.i k x, .i k y] = some (.i k (x.tmod y)) := by
  show cond (kEq k k) (cond (ieq y 0) none (some (IV.i k (x.tmod y)))) none = _
  have : ieq y 0 = false := by rw [ieq_eq]; simpa using h
  rw [kEq_self, this]; rfl
theorem wrap64 {n : Int} (h1 : -9223372036854775808 ≤ n) (h2 : n ≤ 9223372036854775807) : IntKind.wrap .i64 n = n := by
  have := wrapI_eq .i64 n
  rw [← this]
  unfold wrapI inI64
  cases n with
  | ofNat m =>
    have : m ≤ 9223372036854775807 := by have : (m : Int) ≤ 9223372036854775807 := h2; omega
    show ifI (Nat.beq 3 3) (ifI (Nat.ble m 9223372036854775807) (.ofNat m) _) _ = _
    rw [Nat.ble_eq_true_of_le this]; rfl
  | negSucc m =>
    have : m ≤ 9223372036854775807 := by omega
    show ifI (Nat.beq 3 3) (ifI (Nat.ble m 9223372036854775807) (.negSucc m) _) _ = _
    rw [Nat.ble_eq_true_of_le this]; rfl
@[simp] theorem evBins_eql (x y : List Nat) : evBins .eql [.s x, .s y] = some (.b (decide (x = y))) := by
  show some (IV.b (seq x y)) = _
  rw [seq_eq]; congr 2; by_cases h : x = y <;> simp [h]
@[simp] theorem evBins_neq (x y : List Nat) : evBins .neq [.s x, .s y] = some (.b (!decide (x = y))) := by
  show some (IV.b (!(seq x y))) = _
  rw [seq_eq]; congr 3; by_cases h : x = y <;> simp [h]
@[simp] theorem evEqb_eq (n x y : Bool) : evEqb n [.b x, .b y] = some (.b (if n then x != y else x == y)) := by cases n <;> rfl
@[simp] theorem wantV_eq (w x : Bool) : wantV w (.b x) = (x == w) := rfl
@[simp] theorem condR_eq (x y : R) (c : Bool) : condR x y (.b c) = if c then x else y := by cases c <;> rfl
theorem cond_if {α : Type} (c : Bool) (x y : α) : cond c x y = if c then x else y := by cases c <;> rfl
theorem cond_pre_t {α : Type} {c : Bool} {x y : α} (h : c = true) : cond c x y = x := by rw [h]; rfl
theorem cond_pre_f {α : Type} {c : Bool} {x y : α} (h : c = false) : cond c x y = y := by rw [h]; rfl
@[simp] theorem cond_some' {α : Type} (c : Bool) (x y : α) : cond c (some x) (some y) = some (cond c x y) := by cases c <;> rfl
@[simp] theorem cond_bool (c x y : Bool) : cond c (IV.b x) (IV.b y) = IV.b (cond c x y) := by cases c <;> rfl
@[simp] theorem cond_pair {α β : Type} (c : Bool) (x y : α) (u v : β) : cond c (x, u) (y, v) = (cond c x y, cond c u v) := by cases c <;> rfl
@[simp] theorem cond_same {α : Type} (c : Bool) (x : α) : cond c x x = x := by cases c <;> rfl
@[simp] theorem exCall_f (cf : CallF) (f : Pos) (caps args : List IV) (h : Hp) : exCall cf (.f f caps) args h = cf f (args ++ caps) h := rfl
@[simp] theorem evExt_eq (n : Nat) (l : List IV) : evExt n [.tup l] = l[n]? := nth_eq _ _
@[simp] theorem evEqp_1 (n : Bool) : evEqp n [.pn, .pn] = some (.b (!n)) := rfl
@[simp] theorem evEqp_2 (n : Bool) (b : Pos) (o : Nat) : evEqp n [.p b o, .pn] = some (.b n) := rfl
@[simp] theorem evEqp_3 (n : Bool) (l : List IV) : evEqp n [.pi l, .pn] = some (.b n) := rfl

/-! Struct comparison. -/
@[simp] theorem eqCells_nil' : eqCells [] [] [] = some true := rfl
@[simp] theorem eqCells_cons' (k : Nat) (ks : List Nat) (a b : IV) (x y : List IV) : eqCells (k :: ks) (a :: x) (b :: y) = andO (eqCell k a b) (eqCells ks x y) := rfl
@[simp] theorem eqCell_i (k : IntKind) (a b : Int) : eqCell 0 (.i k a) (.i k b) = some (decide (a = b)) := by
  show cond (Nat.beq 0 0) (cond (kEq k k) (some (ieq a b)) none) none = _
  rw [kEq_self, ieq_eq]; rfl
@[simp] theorem eqCell_b (a b : Bool) : eqCell 1 (.b a) (.b b) = some (decide (a = b)) := by
  show some (a == b) = _
  cases a <;> cases b <;> rfl
@[simp] theorem eqCell_s (a b : List Nat) : eqCell 2 (.s a) (.s b) = some (decide (a = b)) := by
  show some (seq a b) = _
  rw [seq_eq]; congr 1; by_cases h : a = b <;> simp [h]
@[simp] theorem andO_some' (a b : Bool) : andO (some a) (some b) = some (a && b) := by cases a <;> rfl
@[simp] theorem evEqa_eq (n : Bool) (ks : List Nat) (x y : List IV) : evEqa n ks [.agg x, .agg y] = (eqCells ks x y).map fun r => .b (if n then !r else r) := by
  show (match eqCells ks x y with | some r => some (IV.b (cond n (!r) r)) | none => none) = _
  cases eqCells ks x y <;> cases n <;> rfl

/-! Freezing. -/
theorem frzF_succ_b (n : Nat) (h : Hp) (x : Bool) : frzF (n + 1) h (.b x) = some (.b x, h) := rfl
@[simp] theorem frz_b (h : Hp) (x : Bool) : frz h (.b x) = some (.b x, h) := rfl
@[simp] theorem frz_i (h : Hp) (k : IntKind) (x : Int) : frz h (.i k x) = some (.i k x, h) := rfl
@[simp] theorem frz_s (h : Hp) (x : List Nat) : frz h (.s x) = some (.s x, h) := rfl
@[simp] theorem frz_pn (h : Hp) : frz h .pn = some (.pn, h) := rfl
@[simp] theorem frz_sn (h : Hp) : frz h .sn = some (.sli [], h) := rfl
@[simp] theorem frz_mn (h : Hp) : frz h .mn = some (.mi [] [], h) := rfl
@[simp] theorem frz_fn (h : Hp) : frz h .fn = some (.fn, h) := rfl
@[simp] theorem frz_pi (h : Hp) (l : List IV) : frz h (.pi l) = some (.pi l, h) := rfl
@[simp] theorem frz_sli (h : Hp) (l : List (List IV)) : frz h (.sli l) = some (.sli l, h) := rfl
@[simp] theorem frz_mi (h : Hp) (l m : List IV) : frz h (.mi l m) = some (.mi l m, h) := rfl
@[simp] theorem frzs_nil (h : Hp) : frzs h [] = some ([], h) := rfl
@[simp] theorem frzs_cons (h : Hp) (v : IV) (vs : List IV) : frzs h (v :: vs) = (frz h v).bind fun p => (frzs p.2 vs).bind fun q => some (p.1 :: q.1, q.2) := by
  show frzL frz h (v :: vs) = _
  unfold frzL
  cases frz h v with
  | none => rfl
  | some p =>
    obtain ⟨u, h'⟩ := p
    show (match frzL frz h' vs with | none => none | some (us, h'') => some (u :: us, h'')) = _
    show _ = (frzL frz h' vs).bind _
    cases frzL frz h' vs <;> rfl

/-- A value in which no one writes any more. -/
def Im : IV → Bool
  | .b _ | .i _ _ | .s _ | .pn | .fn | .inn | .pi _ | .sli _ | .mi _ _ => true
  | _ => false
theorem frzF_im (n : Nat) (h : Hp) {v : IV} (hv : Im v = true) : frzF (n + 1) h v = some (v, h) := by
  cases v <;> first | rfl | (cases hv; done)
theorem frzL_im (n : Nat) (h : Hp) : ∀ {l : List IV}, (l.all Im = true) → frzL (frzF (n + 1)) h l = some (l, h)
  | [], _ => rfl
  | v :: vs, hv => by
    simp only [List.all_cons, Bool.and_eq_true] at hv
    unfold frzL
    rw [frzF_im n h hv.1]
    simp only []
    rw [frzL_im n h hv.2]
theorem frz_agg {h : Hp} {l : List IV} (hl : l.all Im = true) : frz h (.agg l) = some (.agg l, h) := by
  show (match frzL (frzF 39) h l with | some (l', h') => some (IV.agg l', h') | none => none) = _
  rw [frzL_im 38 h hl]
theorem frz_tup {h : Hp} {l : List IV} (hl : l.all Im = true) : frz h (.tup l) = some (.tup l, h) := by
  show (match frzL (frzF 39) h l with | some (l', h') => some (IV.tup l', h') | none => none) = _
  rw [frzL_im 38 h hl]
theorem frz_f {h : Hp} {f : Pos} {l : List IV} (hl : l.all Im = true) : frz h (.f f l) = some (.f f l, h) := by
  show (match frzL (frzF 39) h l with | some (l', h') => some (IV.f f l', h') | none => none) = _
  rw [frzL_im 38 h hl]
theorem frz_p {h : Hp} {b : Pos} {o m : Nat} {l : List IV} (hb : cellsOf (h.get b) = some (m, l)) (hl : l.all Im = true) : frz h (.p b o) = some (.pi (l.drop o), h.set b (.rc m l)) := by
  show (match cellsOf (h.get b) with | some (m, l) => (match frzL (frzF 39) h l with | some (l', h') => some (IV.pi (l'.drop o), h'.set b (.rc m l)) | none => none) | none => none) = _
  rw [hb]
  simp only []
  rw [frzL_im 38 h hl]
theorem frz_sl {h : Hp} {b : Pos} {o n c z m : Nat} {l : List IV} (hb : cellsOf (h.get b) = some (m, l)) (hn : n ≠ 0) (hm : o + n * z ≤ m) (hl : ((l.drop o).take (n * z)).all Im = true) :
    frz h (.sl b o n c z) = some (.sli (chunks z n ((l.drop o).take (n * z))), h.set b (.rc m l)) := by
  show cond (Nat.beq n 0) _ (match cellsOf (h.get b) with | some (m, l) => cond (Nat.ble (o + n * z) m) (match frzL (frzF 39) h ((l.drop o).take (n * z)) with | some (l', h') => some (IV.sli (chunks z n l'), h'.set b (.rc m l)) | none => none) none | none => none) = _
  rw [hb, beq_no hn]
  simp only [cond_false]
  rw [Nat.ble_eq_true_of_le hm, frzL_im 38 h hl]
  rfl
@[simp] theorem frz_sl0 (h : Hp) (b : Pos) (o c z : Nat) : frz h (.sl b o 0 c z) = some (.sli [], h) := rfl
end Go.Fg
/- Ranges over maps: what the model's three operations do. -/
namespace Go.Fg
section
variable {P : Program} {w : World} {o : Oper} {ρ : Operand → Value}

theorem run_getO {r : Nat} {x : Obj} (h : w.heap[r]? = some x) (hc : ∀ c e f, x ≠ .cells c e f) : (getObj r).run P w = .ok x w := by
  unfold getObj
  cases x <;> simp_all [Sem.run]
theorem run_setO {r : Nat} {x y : Obj} (h : w.heap[r]? = some x) (hc : ∀ c e f, x ≠ .cells c e f) : (setObj r y).run P w = .ok () { w with heap := w.heap.setIfInBounds r y } := by
  unfold setObj
  cases x <;> simp_all [Sem.run]
theorem run_choose {n : Nat} (q : Question) (hq : ∀ t, 0 < n → q.cut t < n) (hn : 0 < n) : ∃ (i : Nat) (w' : World), i < n ∧ (choose q).run P w = .ok i w' ∧ w'.heap = w.heap ∧ sameOut w w' := by
  unfold choose
  cases c : q.forced with
  | true => exact ⟨0, w, hn, by simp [Sem.run, c], rfl, .refl w⟩
  | false => exact ⟨q.cut (w.tape w.drawn q), { w with drawn := w.drawn + 1 }, hq _ hn, by simp [Sem.run, c], rfl, rfl, rfl, rfl, fun _ => rfl⟩
theorem run_choose_map {n : Nat} (hn : 0 < n) : ∃ (i : Nat) (w' : World), i < n ∧ (choose (.mapNext n)).run P w = .ok i w' ∧ w'.heap = w.heap ∧ sameOut w w' :=
  run_choose (n := n) (.mapNext n) (fun t h => by show t % n < n; exact Nat.mod_lt _ h) hn

/-- What may come next. -/
def leftM (es : Array MapEntry) (seen : Array Nat) : Array MapEntry := es.filter fun e => !seen.contains e.born
def candsM (es : Array MapEntry) (since : Nat) (seen : Array Nat) : Array (Option MapEntry) :=
  (if ((leftM es seen).filter (·.born < since)).isEmpty then #[none] else #[]) ++ (((leftM es seen).filter (·.born < since)) ++ ((leftM es seen).filter (·.born ≥ since))).map some
theorem candsM_pos (es : Array MapEntry) (since : Nat) (seen : Array Nat) : 0 < (candsM es since seen).size := by
  unfold candsM
  split
  · simp; omega
  · rename_i h
    have : 0 < ((leftM es seen).filter (·.born < since)).size := by
      rcases Nat.eq_zero_or_pos ((leftM es seen).filter (·.born < since)).size with c | c
      · exact absurd (by simpa [Array.isEmpty] using c) h
      · exact c
    rw [Array.size_append, Array.size_map, Array.size_append]
    omega

theorem range_run {xt : TypeId} {x : Operand} {k e : TypeId} {m : Nat} {es : Array MapEntry} {clock : Nat} (ho : o.op = .range xt x) (hu : P.underlying xt = some (.map k e)) (hx : ρ x = .map (some m)) (hm : w.heap[m]? = some (.map es clock)) :
    (execOp ρ o).run P w = .ok (.value (.pointer (some ⟨w.heap.size, 0, none⟩))) { w with heap := w.heap.push (.mapIter (some m) clock #[] clock) } := by
  simp [execOp, ho, hx, Instr.range, run_underlying hu, run_getO hm (by intro _ _ _ h; cases h), newObj, Sem.run]
theorem next_over {it : Operand} {r : Nat} {s : Nat} {sn : Array Nat} {l : Nat} (ho : o.op = .next it false) (hx : ρ it = .pointer (some ⟨r, 0, none⟩)) (hr : w.heap[r]? = some (.mapIter none s sn l)) :
    (execOp ρ o).run P w = .ok (.value (.tuple #[.bool false])) w := by
  simp [execOp, ho, hx, Instr.next, run_getO hr (by intro _ _ _ h; cases h)]
theorem next_run {it : Operand} {r m since last clock : Nat} {seen : Array Nat} {es : Array MapEntry} (ho : o.op = .next it false) (hx : ρ it = .pointer (some ⟨r, 0, none⟩)) (hr : w.heap[r]? = some (.mapIter (some m) since seen last)) (hm : w.heap[m]? = some (.map es clock))
    (hc : (!seen.isEmpty && !es.isEmpty && es.all (fun e => decide (e.born ≥ last))) = false) :
    ∃ (i : Nat) (w' : World), w'.heap = w.heap ∧ sameOut w w' ∧ (((candsM es since seen)[i]? = some none ∧ (execOp ρ o).run P w = .ok (.value (.tuple #[.bool false])) w') ∨
      ∃ e : MapEntry, (candsM es since seen)[i]? = some (some e) ∧ (execOp ρ o).run P w = .ok (.value (.tuple #[.bool true, e.key, e.val])) { w' with heap := w.heap.setIfInBounds r (.mapIter (some m) since (seen.push e.born) clock) }) := by
  obtain ⟨i, w', h1, h2, h3, h4⟩ := run_choose_map (P := P) (w := w) (candsM_pos es since seen)
  refine ⟨i, w', h3, h4, ?_⟩
  have hi : i < (candsM es since seen).size := h1
  have hc' : ¬ (!seen.isEmpty && !es.isEmpty && es.all (fun e => decide (e.born ≥ last))) = true := by rw [hc]; exact fun h => by cases h
  have hr' : w'.heap[r]? = some (.mapIter (some m) since seen last) := by rw [h3]; exact hr
  cases hq : (candsM es since seen)[i]? with
  | none => rw [Array.getElem?_eq_getElem hi] at hq; cases hq
  | some c =>
    cases c with
    | none =>
      refine .inl ⟨rfl, ?_⟩
      simp only [execOp, ho, hx, Instr.next, Sem.run_bind, run_getO hr (by intro _ _ _ h; cases h), run_getO hm (by intro _ _ _ h; cases h), Result.andThen_ok]
      rw [if_neg hc']
      unfold candsM leftM at h2 hq
      rw [Sem.run_bind, h2]
      simp only [Result.andThen_ok, hq, Sem.run_pure]
    | some e =>
      refine .inr ⟨e, rfl, ?_⟩
      simp only [execOp, ho, hx, Instr.next, Sem.run_bind, run_getO hr (by intro _ _ _ h; cases h), run_getO hm (by intro _ _ _ h; cases h), Result.andThen_ok]
      rw [if_neg hc']
      unfold candsM leftM at h2 hq
      rw [Sem.run_bind, h2]
      simp only [Result.andThen_ok, hq, Sem.run_bind, run_setO hr' (by intro _ _ _ h; cases h), Sem.run_pure, h3]
theorem entry_run {it : Operand} {r m since last clock stamp : Nat} {seen : Array Nat} {es : Array MapEntry} {e : MapEntry} (ho : o.op = .entry it) (hx : ρ it = .pointer (some ⟨r, 0, none⟩)) (hr : w.heap[r]? = some (.mapIter (some m) since seen last)) (hm : w.heap[m]? = some (.map es clock))
    (hs : seen.back? = some stamp) (hc : clock = last) (he : es.find? (fun x => x.born == stamp) = some e) : (execOp ρ o).run P w = .ok (.value (.tuple #[e.key, e.val])) w := by
  subst hc
  simp [execOp, ho, hx, Instr.entry, run_getO hr (by intro _ _ _ h; cases h), run_getO hm (by intro _ _ _ h; cases h), hs, he]
theorem bound_run {n : Nat} {first : Array Operand} (ho : o.op = .makeFunc (.func n) first #[]) : (execOp ρ o).run P w = .ok (.value (.func (.func n) (first.map ρ) #[])) w := by
  simp [execOp, ho, Instr.makeFunc]
end
end Go.Fg
/- The ideal machine with lists of outcomes: definitions. -/
namespace Go.Fg

/-- An iterator over a map: the map, the clock when it began, whom it gave, the clock at the last step. -/
structure It where
  m : Pos
  since : Nat
  seen : List Nat
  last : Nat
abbrev Its := List (Pos × It)
noncomputable def getIt (p : Pos) : Its → Option It
  | [] => none
  | e :: r => cond (Pos.eq p e.1) (some e.2) (getIt p r)
noncomputable def setIt (p : Pos) (x : It) : Its → Its
  | [] => []
  | e :: r => cond (Pos.eq p e.1) ((p, x) :: setIt p x r) (e :: setIt p x r)
def hasN (n : Nat) : List Nat → Bool
  | [] => false
  | m :: r => cond (Nat.beq n m) true (hasN n r)
def leftI (es : List IEnt) (seen : List Nat) : List IEnt := es.filter fun e => !hasN e.born seen
def isNil {α : Type} : List α → Bool
  | [] => true
  | _ => false
/-- What may come next: none is the end. -/
def candsI (es : List IEnt) (since : Nat) (seen : List Nat) : List (Option IEnt) :=
  cond (isNil ((leftI es seen).filter fun e => Nat.blt e.born since)) [none] [] ++ (((leftI es seen).filter fun e => Nat.blt e.born since) ++ ((leftI es seen).filter fun e => Nat.ble since e.born)).map some

/-- Operations: those of the machine, and those with more than one outcome. -/
inductive TOp where
  | base (o : IOper)
  | call (d : Option Pos) (f : Od) (xs : List Od)
  | range (d : Option Pos) (x : Od)
  | next (d : Option Pos) (x : Od)
  | entry (d : Option Pos) (x : Od)
  | bnd (d : Option Pos) (n : Nat) (xs : List Od)
inductive TCode where
  | skip
  | ops (l : List TOp)
  | draw (l : List (TOp × List Nat))
  | seq (a b : TCode)
  | cond (c : Od) (a b : TCode)
  | block (id : Nat) (b : TCode)
  | loop (b : TCode)
  | exit (id : Nat)
  | ret
  | bad
structure TSt where
  τ : Fm
  h : Hp
  its : Its
inductive TOut where
  | nrm (s : TSt)
  | ret (s : TSt)
  | exit (id : Nat) (s : TSt)

abbrev CallT := Pos → List IV → Hp → Option (List (IV × Hp))

/-- All of them, one behind the other; none if one fails. -/
def bindAll {α β : Type} (f : α → Option (List β)) : List α → Option (List β)
  | [] => some []
  | x :: r => match f x, bindAll f r with
    | some a, some b => some (a ++ b)
    | _, _ => none
noncomputable def TSt.put (s : TSt) (d : Option Pos) (v : IV) (h : Hp) : TSt := ⟨putd s.τ d v, h, s.its⟩
noncomputable def callV (cf : CallT) (f : IV) (xs : List IV) (h : Hp) : Option (List (IV × Hp)) := match f with
  | .f g caps => cf g (xs ++ caps) h
  | .ic n (.tup l) => cond (Nat.ble 1000000 n) (cf (pos (n - 1000000)) (l ++ xs) h) none
  | _ => none
def nextOk (it : It) (es : List IEnt) : Bool := isNil it.seen || isNil es || !(es.all fun e => Nat.ble it.last e.born)
def stepIt (it : It) (clock : Nat) (b : Nat) : It := ⟨it.m, it.since, it.seen ++ [b], clock⟩
noncomputable def nextT (s : TSt) (d : Option Pos) (p : Pos) (it : It) (c : Nat) : Option IEnt → TSt
  | none => s.put d (.tup [.b false]) s.h
  | some e => ⟨putd s.τ d (.tup [.b true, e.key, e.val]), s.h, setIt p (stepIt it c e.born) s.its⟩
noncomputable def stepT (cf : CallT) (s : TSt) : TOp → Option (List TSt)
  | .base o => match exOpz (fun _ _ _ => none) o s.τ s.h with
    | some (v, h) => some [s.put o.dst v h]
    | none => none
  | .call d f xs => match callV cf (f.ev s.τ) (evs s.τ xs) s.h with
    | some L => some (L.map fun r => s.put d r.1 r.2)
    | none => none
  | .range d x => match x.ev s.τ with
    | .m b => match mapOf (s.h.get b) with
      | some (_, c) => some [⟨putd s.τ d (.p s.h.next 0), ⟨s.h.t, s.h.next.nxt⟩, (s.h.next, ⟨b, c, [], c⟩) :: s.its⟩]
      | none => none
    | _ => none
  | .next d x => match x.ev s.τ with
    | .p p 0 => match getIt p s.its with
      | some it => match mapOf (s.h.get it.m) with
        | some (es, c) => cond (nextOk it es) (some ((candsI es it.since it.seen).map (nextT s d p it c))) none
        | none => none
      | none => none
    | _ => none
  | .entry d x => match x.ev s.τ with
    | .p p 0 => match getIt p s.its with
      | some it => match mapOf (s.h.get it.m), it.seen.getLast? with
        | some (es, c), some st => cond (Nat.beq c it.last) (match es.find? (fun e => e.born == st) with
            | some e => some [s.put d (.tup [e.key, e.val]) s.h]
            | none => none) none
        | _, _ => none
      | none => none
    | _ => none
  | .bnd d n xs => some [s.put d (.ic (n + 1000000) (.tup (evs s.τ xs))) s.h]
noncomputable def opsT (cf : CallT) : List TOp → TSt → Option (List TSt)
  | [], s => some [s]
  | o :: r, s => match stepT cf s o with
    | some L => bindAll (opsT cf r) L
    | none => none
/-- Which operations may be next. -/
def subN (l done : List Nat) : Bool := l.all fun n => hasN n done
def readyT (done : List Nat) : Nat → List (TOp × List Nat) → List (Nat × TOp)
  | _, [] => []
  | i, x :: r => cond (!(hasN i done) && subN x.2 done) ((i, x.1) :: readyT done (i + 1) r) (readyT done (i + 1) r)
noncomputable def anyT (cf : CallT) (l : List (TOp × List Nat)) : Nat → List Nat → TSt → Option (List TSt)
  | 0, done, s => cond (isNil (readyT done 0 l)) (some [s]) none
  | n + 1, done, s => cond (isNil (readyT done 0 l)) (some [s]) (bindAll (fun (x : Nat × TOp) => match stepT cf s x.2 with
    | some L => bindAll (anyT cf l n (x.1 :: done)) L
    | none => none) (readyT done 0 l))
def thenT (k : TSt → Option (List TOut)) : TOut → Option (List TOut)
  | .nrm s => k s
  | o => some [o]
def blockT (id : Nat) : TOut → TOut
  | .exit k s => cond (Nat.beq k id) (.nrm s) (.exit k s)
  | o => o
def seqT (x : Option (List TOut)) (k : TSt → Option (List TOut)) : Option (List TOut) := match x with
  | some L => bindAll (thenT k) L
  | none => none
def loopT (body : TSt → Option (List TOut)) : Nat → TSt → Option (List TOut)
  | 0, _ => none
  | n + 1, s => seqT (body s) (loopT body n)
noncomputable def semT (N : Nat) (cf : CallT) : TCode → TSt → Option (List TOut)
  | .skip, s => some [.nrm s]
  | .ops l, s => match opsT cf l s with
    | some L => some (L.map .nrm)
    | none => none
  | .draw l, s => match anyT cf l l.length [] s with
    | some L => some (L.map .nrm)
    | none => none
  | .seq a b, s => seqT (semT N cf a s) (semT N cf b)
  | .cond c a b, s => match c.ev s.τ with
    | .b true => semT N cf a s
    | .b false => semT N cf b s
    | _ => none
  | .block id b, s => match semT N cf b s with
    | some L => some (L.map (blockT id))
    | none => none
  | .loop b, s => loopT (semT N cf b) N s
  | .exit id, s => some [.exit id s]
  | .ret, s => some [.ret s]
  | .bad, _ => none

/-! From the model's code. -/
section
variable (P : Program)
noncomputable def badT : TOp := .base ⟨none, .bad, none, 0, false⟩
def dstT (nt : Nat) (d : Option Nat) : Option (Option Pos) := match d with
  | none => some none
  | some t => cond (Nat.blt t nt) (some (some (pos t))) none
noncomputable def compT (nt : Nat) (o : Oper) : TOp := match o.guard, dstT nt o.dst with
  | none, some d => match o.op with
    | .range t x => match P.underlying t, od x with
      | some (.map _ _), some a => .range d a
      | _, _ => badT
    | .next x false => match od x with
      | some a => .next d a
      | none => badT
    | .entry x => match od x with
      | some a => .entry d a
      | none => badT
    | .makeFunc (.func n) first captured => cond (Nat.blt n 1000000) (match captured.toList, first.toList with
      | [], y :: l => match ods (y :: l) with
        | some xs => .bnd d n xs
        | none => badT
      | _, _ => .base ⟨d, (compOp P o).getD .bad, none, 0, false⟩) badT
    | .call _ => match compOp P o with
      | some (.call f xs) => .call d f xs
      | some io => .base ⟨d, io, none, 0, false⟩
      | none => badT
    | _ => .base ⟨d, (compOp P o).getD .bad, none, 0, false⟩
  | _, _ => badT
noncomputable def compTC (nt : Nat) : Code → TCode
  | .skip => .skip
  | .region _ ops false => .ops (ops.toList.map (compT P nt))
  | .region _ ops true => .draw (ops.toList.map fun o => (compT P nt o, (o.after.toList.filter (Region.binds .any)).map (·.on)))
  | .seq a b => .seq (compTC nt a) (compTC nt b)
  | .cond c a b => match od c with
    | some x => .cond x (compTC nt a) (compTC nt b)
    | none => .bad
  | .block id b => .block id (compTC nt b)
  | .loop b => .loop (compTC nt b)
  | .exit id => .exit id
  | .ret => .ret
  | _ => .bad
structure TFn where
  res : List IRes
  body : TCode
noncomputable def compTFn (f : Nat) : Option TFn := match P.funcs[f]? with
  | some fn => match fn.body, compRes P fn.results.toList with
    | some c, some rs => if fn.ntmps ≤ 100000 ∧ fn.name ≠ "runtime.NumGoroutine" then some ⟨rs, compTC P fn.ntmps c⟩ else none
    | _, _ => none
  | none => none
end
noncomputable def leaveT (rs : List IRes) : TOut → Option (List (IV × Hp))
  | .nrm s | .ret s => match resultsI s.τ s.h rs with
    | some vs => some [(oneOf vs, s.h)]
    | none => none
  | .exit _ _ => none
noncomputable def callFnT (N : Nat) (cf : CallT) (fn : TFn) (args : List IV) (h : Hp) : Option (List (IV × Hp)) := match semT N cf fn.body ⟨frameOf args .h .nil, h, []⟩ with
  | some L => bindAll (leaveT fn.res) L
  | none => none
/-- Calls: the functions of T, by lists of outcomes; the others as cf says. -/
noncomputable def callNT (cf : CallF) (T : Pos → Option TFn) (N : Nat) : Nat → CallT
  | 0 => fun _ _ _ => none
  | n + 1 => fun f args h => match T f with
    | some fn => callFnT N (callNT cf T N n) fn args h
    | none => match cf f args h with
      | some r => some [r]
      | none => none
end Go.Fg
/- The ideal machine with lists of outcomes: one operation. -/
namespace Go.Fg

def FullF (ι : Emb) (H : Hp) : Prop := ∀ b : Pos, H.next.num ≤ b.num → ι b = none
theorem FullF.free {ι : Emb} {H : Hp} (h : FullF ι H) (H' : Hp) : Free ι H H' := fun b k _ => h b k
theorem FullF.fin {ι ι' : Emb} {H H' : Hp} {w w' : World} (h : FullF ι H) (F : Fin ι H w ι' H' w') : FullF ι' H' := fun b k => by
  cases q : ι' b with
  | none => rfl
  | some L =>
    have := F.fresh b (h b (Nat.le_trans F.up k)) (by simp [q])
    omega

structure ItsOk (ι : Emb) (its : Its) (w : World) (base : Nat) : Prop where
  ok : ∀ p it, getIt p its = some it → ∃ L Lb, ι p = some L ∧ L.sh = 0 ∧ base ≤ L.r ∧ ι it.m = some Lb ∧ w.heap[L.r]? = some (.mapIter (some Lb.r) it.since it.seen.toArray it.last)
  inj : ∀ p q it jt L M, getIt p its = some it → getIt q its = some jt → ι p = some L → ι q = some M → L.r = M.r → p = q
theorem iter_apart {ι : Emb} {H : Hp} {w : World} (hH : HR ι H w) {r : Nat} {m : Option Nat} {s l : Nat} {sn : Array Nat} (h : w.heap[r]? = some (.mapIter m s sn l)) : ∀ b L, ι b = some L → H.get b ≠ none → L.r ≠ r := fun b L hL hb e => by
  cases q : H.get b with
  | none => exact hb q
  | some x =>
    have := hH.blk b x L q hL
    subst e
    cases x with
    | cells n l => obtain ⟨_, _, c, e, lo, hi, k, _⟩ := this; rw [h] at k; cases k
    | map es c => obtain ⟨es', k, _⟩ := this; rw [h] at k; cases k
    | rc n l => obtain ⟨_, _, c, e, lo, hi, k, _⟩ := this; rw [h] at k; cases k
    | rm es c => obtain ⟨es', k, _⟩ := this; rw [h] at k; cases k
theorem iter_im {ι : Emb} {H : Hp} {w : World} (hH : HR ι H w) {r : Nat} {m : Option Nat} {s l : Nat} {sn : Array Nat} (h : w.heap[r]? = some (.mapIter m s sn l)) : ∀ x k sh, ι.im x k sh → k ≠ r := fun x k sh hx e => by
  have := hH.pro x k sh hx
  subst e
  cases x with
  | c l => obtain ⟨c, e, fr, k, _⟩ := this; rw [h] at k; cases k
  | m ks vs => obtain ⟨es', c, k, _⟩ := this; rw [h] at k; cases k
theorem ItsOk.fin {ι ι' : Emb} {H H' : Hp} {w w' : World} {its : Its} {base : Nat} (I : ItsOk ι its w base) (hH : HR ι H w) (F : Fin ι H w ι' H' w') : ItsOk ι' its w' base where
  ok p it h := by
    obtain ⟨L, Lb, h1, h2, h3, h4, h5⟩ := I.ok p it h
    exact ⟨L, Lb, F.ext.1 _ _ h1, h2, h3, F.ext.1 _ _ h4, by rw [F.frame L.r (Array.getElem?_eq_some_iff.1 h5).1 (iter_apart hH h5)]; exact h5⟩
  inj p q it jt L M hp hq hL hM e := by
    obtain ⟨L', _, h1, _⟩ := I.ok p it hp
    obtain ⟨M', _, k1, _⟩ := I.ok q jt hq
    have a := F.ext.1 _ _ h1
    have b := F.ext.1 _ _ k1
    rw [hL] at a; rw [hM] at b
    cases a; cases b
    exact I.inj p q it jt _ _ hp hq h1 k1 e

structure TS (nt : Nat) (ι0 : Emb) (H0 : Hp) (w0 : World) (ι : Emb) (s : TSt) (a : Act) (w : World) : Prop where
  st : St nt ι s.τ s.h a w
  fin : Fin ι0 H0 w0 ι s.h w
  full : FullF ι s.h
  its : ItsOk ι s.its w w0.heap.size

section
variable {P : Program} {nt : Nat} {ι0 ι : Emb} {H0 : Hp} {w0 w : World} {s : TSt} {a : Act}

theorem TS.put (T : TS nt ι0 H0 w0 ι s a w) (hnt : nt ≤ 100000) {ι' : Emb} {h' : Hp} {w' : World} (F : Fin ι s.h w ι' h' w') {dst : Option Nat} (hd : ∀ d, dst = some d → d < nt) {v : IV} {v' : Value} (hv : VR ι' v v') : TS nt ι0 H0 w0 ι' (s.put (dst.map pos) v h') (a.put dst v') w' where
  st := T.st.fin F hd hnt hv
  fin := T.fin.trans F
  full := T.full.fin F
  its := T.its.fin T.st.hr F

/-- An iterator's object changes. -/
theorem Fin.touch {ι0 ι : Emb} {H0 H : Hp} {w0 w w' : World} (F : Fin ι0 H0 w0 ι H w) {r : Nat} {m : Option Nat} {x l : Nat} {sn : Array Nat} (h : w.heap[r]? = some (.mapIter m x sn l)) (hr : w0.heap.size ≤ r) {y : Obj} (hw : w'.heap = w.heap.setIfInBounds r y) (ho : sameOut w w') : Fin ι0 H0 w0 ι H w' := by
  have ap := iter_apart F.hr h
  have im := iter_im F.hr h
  have sz : w'.heap.size = w.heap.size := by rw [hw]; simp
  have ne : ∀ k, k ≠ r → w'.heap[k]? = w.heap[k]? := fun k hk => by rw [hw, Array.getElem?_setIfInBounds_ne (Ne.symm hk)]
  exact {
    ext := F.ext
    fresh := F.fresh
    hr := {
      pro := fun z k sh hz => (F.hr.pro z k sh hz).mono (Emb.le.refl _) (ne k (im z k sh hz))
      apart := F.hr.apart
      blk := fun b z L hb hL => (F.hr.blk b z L hb hL).mono (Emb.le.refl _) (ne _ (ap b L hL (by rw [hb]; simp)))
      inj := F.hr.inj
      lt := fun b L hL => by rw [sz]; exact F.hr.lt b L hL
      low := F.hr.low }
    up := F.up
    size := by rw [sz]; exact F.size
    frame := fun k hk hc => by rw [ne k (by omega)]; exact F.frame k hk hc
    cover := F.cover
    icov := F.icov
    still := F.still
    out := F.out.trans ho }
/-- A new iterator. -/
theorem Fin.iter {ι0 ι : Emb} {H0 H : Hp} {w0 w w' : World} (F : Fin ι0 H0 w0 ι H w) (full : FullF ι H) {y : Obj} (hw : w'.heap = w.heap.push y) (ho : sameOut w w') : Fin ι0 H0 w0 (ι.upd H.next ⟨w.heap.size, 0, 0⟩) ⟨H.t, H.next.nxt⟩ w' := by
  have hn : ι H.next = none := full _ (Nat.le_refl _)
  have le := Emb.le_upd ⟨w.heap.size, 0, 0⟩ hn
  have hget : ∀ k, k < w.heap.size → w'.heap[k]? = w.heap[k]? := fun k hk => by rw [hw, Array.getElem?_push_lt hk]; simp [hk]
  have dead : H.get H.next = none := by
    cases h : H.get H.next with
    | none => rfl
    | some z => exact absurd (F.hr.low H.next (by simp [h])) (Nat.lt_irrefl _)
  have gg : ∀ b, Hp.get ⟨H.t, H.next.nxt⟩ b = H.get b := fun b => rfl
  have was : ∀ b L, (ι.upd H.next ⟨w.heap.size, 0, 0⟩) b = some L → H.get b ≠ none → ι b = some L := fun b L hb hl => by
    by_cases e : b = H.next
    · subst e; exact absurd dead hl
    · rwa [Emb.upd_ne _ _ e] at hb
  exact {
    ext := F.ext.trans le
    fresh := fun b h1 h2 => by
      by_cases e : b = H.next
      · subst e; refine ⟨F.up, ?_⟩; show H.next.num < H.next.nxt.num; rw [Pos.num_nxt]; omega
      · rw [Emb.upd_ne _ _ e] at h2
        have := F.fresh b h1 h2
        refine ⟨this.1, ?_⟩; show b.num < H.next.nxt.num; rw [Pos.num_nxt]; omega
    hr := {
      pro := fun z k sh hz => (F.hr.pro z k sh hz).mono le.bare (hget k (F.hr.pro z k sh hz).lt)
      apart := fun b z L y' k sh hb hl hL hz => F.hr.apart b z L y' k sh hb hl (was b L hL (by rw [← gg, hb]; simp)) hz
      blk := fun b z L hb hL => (F.hr.blk b z L hb (was b L hL (by rw [← gg, hb]; simp))).mono le (hget _ (F.hr.lt b L (was b L hL (by rw [← gg, hb]; simp))))
      inj := fun b c L M h1 h2 k1 k2 e => F.hr.inj b c L M h1 h2 (was b L k1 h1) (was c M k2 h2) e
      lt := fun b L hL => by
        have sz : w'.heap.size = w.heap.size + 1 := by rw [hw]; simp
        by_cases e : b = H.next
        · subst e; rw [Emb.upd_eq] at hL; cases hL; show w.heap.size < _; omega
        · rw [Emb.upd_ne _ _ e] at hL; have := F.hr.lt b L hL; omega
      low := fun b hb => by have := F.hr.low b hb; show b.num < H.next.nxt.num; rw [Pos.num_nxt]; omega }
    up := by have := F.up; show _ ≤ H.next.nxt.num; rw [Pos.num_nxt]; omega
    size := by have := F.size; rw [hw]; simp; omega
    frame := fun k hk hc => by rw [hget k (Nat.lt_of_lt_of_le hk F.size)]; exact F.frame k hk hc
    cover := fun b L e1 e2 hr => F.cover b L (was b L e1 e2) e2 hr
    icov := F.icov
    still := fun b hb hn => F.still b hb hn
    out := F.out.trans ho }

theorem Pos.eq_no {p q : Pos} (h : p ≠ q) : Pos.eq p q = false := by
  cases c : Pos.eq p q with
  | true => exact absurd (Pos.eq_true c) h
  | false => rfl
theorem getIt_set (p q : Pos) (x : It) : ∀ l : Its, getIt q (setIt p x l) = if q = p then (getIt p l).map (fun _ => x) else getIt q l
  | [] => by simp [getIt, setIt]
  | e :: r => by
    have ih := getIt_set p q x r
    show getIt q (cond (Pos.eq p e.1) ((p, x) :: setIt p x r) (e :: setIt p x r)) = if q = p then (cond (Pos.eq p e.1) (some e.2) (getIt p r)).map (fun _ => x) else cond (Pos.eq q e.1) (some e.2) (getIt q r)
    by_cases c : p = e.1
    · rw [← c, Pos.eq_self]
      show cond (Pos.eq q p) (some x) (getIt q (setIt p x r)) = _
      by_cases d : q = p
      · rw [d, Pos.eq_self, if_pos rfl]; rfl
      · rw [Pos.eq_no d, if_neg d]; rw [if_neg d] at ih; exact ih
    · rw [Pos.eq_no c]
      show cond (Pos.eq q e.1) (some e.2) (getIt q (setIt p x r)) = _
      by_cases d : q = p
      · subst d; rw [Pos.eq_no c, if_pos rfl]; rw [if_pos rfl] at ih; exact ih
      · rw [if_neg d]; rw [if_neg d] at ih; rw [ih]
theorem ers_mem {ι : Emb} : ∀ {es : List IEnt} {es' : List MapEntry}, ERs ι es es' → ∀ {e'}, e' ∈ es' → ∃ e ∈ es, VR ι e.key e'.key ∧ VR ι e.val e'.val ∧ e.born = e'.born
  | _, _, .nil, _, h => by cases h
  | _, _, .cons x y xs ys hk hv hb t, e', h => by
    rcases List.mem_cons.1 h with rfl | h
    · exact ⟨x, List.mem_cons_self .., hk, hv, hb⟩
    · obtain ⟨e, h1, h2⟩ := ers_mem t h; exact ⟨e, List.mem_cons_of_mem _ h1, h2⟩
theorem ers_mem' {ι : Emb} : ∀ {es : List IEnt} {es' : List MapEntry}, ERs ι es es' → ∀ {e}, e ∈ es → ∃ e' ∈ es', e.born = e'.born
  | _, _, .nil, _, h => by cases h
  | _, _, .cons x y xs ys hk hv hb t, e, h => by
    rcases List.mem_cons.1 h with rfl | h
    · exact ⟨y, List.mem_cons_self .., hb⟩
    · obtain ⟨e, h1, h2⟩ := ers_mem' t h; exact ⟨e, List.mem_cons_of_mem _ h1, h2⟩
theorem ers_find {ι : Emb} {st : Nat} : ∀ {es : List IEnt} {es' : List MapEntry}, ERs ι es es' → ∀ {e}, es.find? (fun e => e.born == st) = some e → ∃ e', es'.find? (fun e => e.born == st) = some e' ∧ VR ι e.key e'.key ∧ VR ι e.val e'.val
  | _, _, .nil, _, h => by cases h
  | _, _, .cons x y xs ys hk hv hb t, e, h => by
    rw [List.find?_cons] at h ⊢
    rw [← hb]
    cases c : x.born == st with
    | true => rw [c] at h; cases h; exact ⟨y, rfl, hk, hv⟩
    | false => rw [c] at h; exact ers_find t h
theorem hasN_iff {n : Nat} : ∀ {l : List Nat}, hasN n l = true ↔ n ∈ l
  | [] => by simp [hasN]
  | m :: r => by
    show cond (Nat.beq n m) true (hasN n r) = true ↔ _
    rw [List.mem_cons, ← hasN_iff (n := n) (l := r)]
    by_cases c : n = m
    · subst c; simp
    · rw [beq_no c]; simp [c]
theorem isNil_iff {α : Type} {l : List α} : isNil l = true ↔ l = [] := by cases l <;> simp [isNil]
end
end Go.Fg
/- The ideal machine with lists of outcomes: operations in their order. -/
namespace Go.Fg
section
variable {P : Program} {cf : CallT} {nt : Nat} {ι0 ι : Emb} {H0 : Hp} {w0 w : World} {s : TSt} {a : Act}

theorem mem_cands {ι : Emb} {es : List IEnt} {es' : Array MapEntry} (h : ERs ι es es'.toList) {since : Nat} {seen : List Nat} {i : Nat} {y : Option MapEntry} (hy : (candsM es' since seen.toArray)[i]? = some y) :
    match y with
    | none => none ∈ candsI es since seen
    | some e' => ∃ e, some e ∈ candsI es since seen ∧ VR ι e.key e'.key ∧ VR ι e.val e'.val ∧ e.born = e'.born := by
  have hm := Array.mem_of_getElem? hy
  unfold candsM at hm
  rw [Array.mem_append] at hm
  cases y with
  | none =>
    show none ∈ candsI es since seen
    rcases hm with hm | hm
    · split at hm
      · rename_i c
        have hn : ((leftI es seen).filter fun e => Nat.blt e.born since) = [] := by
          rw [List.eq_nil_iff_forall_not_mem]
          intro e he
          rw [List.mem_filter] at he
          obtain ⟨h1, h2⟩ := he
          unfold leftI at h1
          rw [List.mem_filter] at h1
          obtain ⟨e', k1, k2⟩ := ers_mem' h h1.1
          have : e' ∈ (leftM es' seen.toArray).filter (fun x => decide (x.born < since)) := by
            rw [Array.mem_filter]
            refine ⟨?_, by rw [← k2]; exact decide_eq_true (Nat.le_of_ble_eq_true h2)⟩
            unfold leftM
            rw [Array.mem_filter]
            refine ⟨by simpa using k1, ?_⟩
            have h3 := h1.2
            rw [← k2]
            simp only [Bool.not_eq_true'] at h3 ⊢
            cases c : seen.toArray.contains e.born with
            | false => rfl
            | true =>
              have : e.born ∈ seen := by simpa using c
              rw [hasN_iff.2 this] at h3; cases h3
          have c' : (leftM es' seen.toArray).filter (fun x => decide (x.born < since)) = #[] := by simpa [Array.isEmpty] using c
          rw [c'] at this
          simp at this
        unfold candsI
        rw [hn]
        simp [isNil]
      · simp at hm
    · simp at hm
  | some e' =>
    show ∃ e, some e ∈ candsI es since seen ∧ _
    have hm : e' ∈ leftM es' seen.toArray := by
      rcases hm with hm | hm
      · split at hm <;> simp at hm
      · simp only [Array.mem_map, Array.mem_append, Array.mem_filter, Option.some.injEq, exists_eq_right] at hm
        rcases hm with hm | hm
        · exact hm.1
        · exact hm.1
    unfold leftM at hm
    rw [Array.mem_filter] at hm
    obtain ⟨e, h1, h2, h3, h4⟩ := ers_mem h (show e' ∈ es'.toList by simpa using hm.1)
    refine ⟨e, ?_, h2, h3, h4⟩
    have hl : e ∈ leftI es seen := by
      unfold leftI
      rw [List.mem_filter]
      refine ⟨h1, ?_⟩
      have := hm.2
      rw [← h4] at this
      cases c : hasN e.born seen with
      | false => rfl
      | true => rw [hasN_iff] at c; simp [c] at this
    unfold candsI
    rw [List.mem_append]
    refine .inr (List.mem_map.2 ⟨e, ?_, rfl⟩)
    rw [List.mem_append, List.mem_filter, List.mem_filter]
    by_cases c : e.born < since
    · exact .inl ⟨hl, by show Nat.ble (e.born + 1) since = true; exact Nat.ble_eq_true_of_le c⟩
    · exact .inr ⟨hl, Nat.ble_eq_true_of_le (by omega)⟩
theorem next_ok {ι : Emb} {es : List IEnt} {es' : Array MapEntry} (h : ERs ι es es'.toList) {it : It} (hn : nextOk it es = true) : (!it.seen.toArray.isEmpty && !es'.isEmpty && es'.all (fun e => decide (e.born ≥ it.last))) = false := by
  unfold nextOk at hn
  rw [Bool.or_eq_true, Bool.or_eq_true] at hn
  rcases hn with (hn | hn) | hn
  · rw [isNil_iff.1 hn]; rfl
  · rw [isNil_iff.1 hn] at h
    have : es' = #[] := by
      have := h.length
      simpa using this
    subst this; simp
  · simp only [Bool.not_eq_true', List.all_eq_false] at hn
    obtain ⟨e, h1, h2⟩ := hn
    obtain ⟨e', k1, k2⟩ := ers_mem' h h1
    rw [Bool.and_eq_false_iff]
    refine .inr ?_
    rw [Array.all_eq_false]
    obtain ⟨i, hi, he⟩ := Array.mem_iff_getElem.1 (show e' ∈ es' by simpa using k1)
    refine ⟨i, hi, ?_⟩
    rw [he, ← k2]
    intro c
    exact h2 (Nat.ble_eq_true_of_le (by simpa using c))

/-- What answers with a list of outcomes does what the model does. -/
def CSimT (P : Program) (cf : CallT) : Prop := ∀ n args h L, n < 1000000 → cf (pos n) args h = some L →
  (∃ fn, P.funcs[n]? = some fn ∧ fn.body.isNone = false ∧ (fn.name == "runtime.NumGoroutine") = false) ∧
  ∀ (ι : Emb) (w : World) (args' : Array Value), VRs ι args args'.toList → HR ι h w → FullF ι h →
    Calls P n args' w fun e w' => ∃ r ∈ L, ∃ v' ι', e = .returned v' ∧ VR ι' r.1 v' ∧ Fin ι h w ι' r.2 w'

theorem csim_none : CSim P (fun _ _ _ => none) := fun _ _ _ _ _ _ e => by cases e
theorem dstT_some {d : Option Nat} {x : Option Pos} (h : dstT nt d = some x) : x = d.map pos ∧ ∀ t, d = some t → t < nt := by
  unfold dstT at h
  cases d with
  | none => cases h; exact ⟨rfl, fun t e => by cases e⟩
  | some t =>
    obtain ⟨c, e⟩ := cond_some h
    cases e
    exact ⟨rfl, fun t' e => by cases e; exact Nat.le_of_ble_eq_true c⟩
theorem exOpz_badT {cf : CallF} {d : Option Pos} {g : Option (Pos × Bool)} {b : Nat} {τ : Fm} {h : Hp} : exOpz cf ⟨d, .bad, g, b, false⟩ τ h = none := rfl

/-- An operation of the machine. -/
theorem base_step (hnt : nt ≤ 100000) (T : TS nt ι0 H0 w0 ι s a w) {o : Oper} {d : Option Pos} (hd : dstT nt o.dst = some d) {L : List TSt} (e : stepT cf s (.base ⟨d, (compOp P o).getD .bad, none, 0, false⟩) = some L)
    {K : Act → World → Prop} {Q : Exit → Act → World → Prop} (hK : ∀ s' ∈ L, ∀ ι' a' w', TS nt ι0 H0 w0 ι' s' a' w' → K a' w') : o.wp P a w K Q := by
  obtain ⟨rfl, h2⟩ := dstT_some hd
  unfold stepT at e
  simp only [] at e
  split at e
  · rename_i v h' hv
    cases e
    cases hc : compOp P o with
    | none => rw [hc] at hv; cases hv
    | some io =>
      rw [hc] at hv
      exact op_step (cf := fun _ _ _ => none) csim_none T.st.tr T.st.hr hc hv (T.full.free _) fun v' w' ι' k1 k2 => hK _ (List.mem_singleton.2 rfl) _ _ _ (T.put hnt k2 h2 k1)
  · cases e
theorem callV_inv {f : IV} {xs : List IV} {h : Hp} {L : List (IV × Hp)} (e : callV cf f xs h = some L) : (∃ g caps, f = .f g caps ∧ cf g (xs ++ caps) h = some L) ∨ ∃ n l, f = .ic (n + 1000000) (.tup l) ∧ cf (pos n) (l ++ xs) h = some L := by
  unfold callV at e
  split at e
  · exact .inl ⟨_, _, rfl, e⟩
  · rename_i n l
    obtain ⟨c, e⟩ := cond_some e
    have c := Nat.le_of_ble_eq_true c
    exact .inr ⟨n - 1000000, l, by rw [Nat.sub_add_cancel c], e⟩
  · cases e
/-- A call. -/
theorem call_step (hcf : CSimT P cf) (hnt : nt ≤ 100000) (T : TS nt ι0 H0 w0 ι s a w) {o : Oper} {d : Option Pos} (hd : dstT nt o.dst = some d) {f : Od} {xs : List Od} (hc : compOp P o = some (.call f xs)) {L : List TSt} (e : stepT cf s (.call d f xs) = some L)
    {K : Act → World → Prop} {Q : Exit → Act → World → Prop} (hK : ∀ s' ∈ L, ∀ ι' a' w', TS nt ι0 H0 w0 ι' s' a' w' → K a' w') : o.wp P a w K Q := by
  obtain ⟨rfl, h2⟩ := dstT_some hd
  unfold stepT at e
  simp only [] at e
  split at e
  case h_2 => cases e
  rename_i L0 hv
  cases e
  obtain ⟨c, fo, ho, hcal, hf, hxs⟩ := op_step.comp_call hc
  have r1 := od_sound T.st.tr hf
  have r2 := ods_sound T.st.tr hxs
  have fin : ∀ (n : Nat) (args' : Array Value), (Calls P n args' w fun e w' => ∃ r ∈ L0, ∃ v' ι', e = .returned v' ∧ VR ι' r.1 v' ∧ Fin ι s.h w ι' r.2 w') → (execOp a.eval o).run P w = .ok (.enter n args') w → o.wp P a w K Q := fun n args' hcl hrun => by
    unfold Oper.wp
    rw [hrun, Oper.upon_enter]
    refine hcl.mono ?_
    rintro e w' ⟨r, hr, v', ι', rfl, k1, k2⟩
    exact hK _ (List.mem_map.2 ⟨r, hr, rfl⟩) _ _ _ (T.put hnt k2 h2 k1)
  rcases callV_inv hv with ⟨g, caps, hg, hv⟩ | ⟨n, l, hg, hv⟩
  · rw [hg] at r1
    generalize hfo : a.eval fo = fv at r1
    cases r1
    rename_i n hn caps' hcaps
    obtain ⟨⟨fn, p1, p2, p3⟩, p4⟩ := hcf n _ _ _ hn hv
    refine fin n (c.args.map a.eval ++ caps') (p4 ι w _ (by rw [Array.toList_append, Array.toList_map]; exact r2.append hcaps) T.st.hr T.full) ?_
    unfold execOp
    simp [ho, resolve, hcal, hfo, Deferred.ofValue, invoke, run_callFunc p1 p2 p3]
  · rw [hg] at r1
    generalize hfo : a.eval fo = fv at r1
    generalize hq : n + 1000000 = q at r1
    cases r1 with
    | ic _ ht v h => omega
    | fb k hk _ l' hl =>
      have hk' : k = n := by omega
      subst hk'
      obtain ⟨⟨fn, p1, p2, p3⟩, p4⟩ := hcf k _ _ _ hk hv
      refine fin k (l' ++ c.args.map a.eval) (p4 ι w _ (by rw [Array.toList_append, Array.toList_map]; exact hl.append r2) T.st.hr T.full) ?_
      unfold execOp
      simp [ho, resolve, hcal, hfo, Deferred.ofValue, invoke, run_callFunc p1 p2 p3]
end
end Go.Fg
/- The ideal machine with lists of outcomes: iterators. -/
namespace Go.Fg
section
variable {P : Program} {cf : CallT} {nt : Nat} {ι0 ι : Emb} {H0 : Hp} {w0 w : World} {s : TSt} {a : Act}

theorem TR.put' {ι : Emb} {τ : Fm} {a : Act} (h : TR ι τ a) (hs : nt ≤ a.tmps.size) (hnt : nt ≤ 100000) {d : Option Nat} (hd : ∀ t, d = some t → t < nt) {v : IV} {v' : Value} (hv : VR ι v v') : TR ι (putd τ (d.map pos) v) (a.put d v') := by
  cases d with
  | none => exact h
  | some d => have := hd d rfl; exact h.put (by omega) (by omega) hv
theorem St.put' {ι ι' : Emb} {τ : Fm} {H H' : Hp} {w w' : World} (h : St nt ι τ H a w) (hnt : nt ≤ 100000) (le : ι.le ι') (hr : HR ι' H' w') {d : Option Nat} (hd : ∀ t, d = some t → t < nt) {v : IV} {v' : Value} (hv : VR ι' v v') : St nt ι' (putd τ (d.map pos) v) H' (a.put d v') w' where
  tr := (h.tr.mono le).put' h.size hnt hd hv
  hr := hr
  size := by
    cases d with
    | none => exact h.size
    | some d => simpa [Act.put] using h.size
  def_ := by
    cases d with
    | none => exact h.def_
    | some d => simpa [Act.put] using h.def_

theorem range_step (hnt : nt ≤ 100000) (T : TS nt ι0 H0 w0 ι s a w) {o : Oper} {d : Option Pos} (hd : dstT nt o.dst = some d) {t : TypeId} {x : Operand} {k e : TypeId} (ho : o.op = .range t x) (hu : P.underlying t = some (.map k e)) {y : Od} (hx : od x = some y) {L : List TSt} (hs : stepT cf s (.range d y) = some L)
    {K : Act → World → Prop} {Q : Exit → Act → World → Prop} (hK : ∀ s' ∈ L, ∀ ι' a' w', TS nt ι0 H0 w0 ι' s' a' w' → K a' w') : o.wp P a w K Q := by
  obtain ⟨rfl, h2⟩ := dstT_some hd
  unfold stepT at hs
  simp only [] at hs
  have hv := od_sound T.st.tr hx
  split at hs
  case h_2 => cases hs
  rename_i b hb
  rw [hb] at hv
  split at hs
  case h_2 => cases hs
  rename_i es c hm
  cases hs
  obtain ⟨L, hL, hx'⟩ := vr_m hv
  obtain ⟨es', k1, k2⟩ := map_sound T.st.hr hm hL
  unfold Oper.wp
  rw [range_run ho hu hx' k1, Oper.upon_value]
  have F := Fin.iter (w' := { w with heap := w.heap.push (.mapIter (some L.r) c #[] c) }) T.fin T.full rfl ⟨rfl, rfl, rfl, fun a => by
    unfold World.frozen?
    by_cases h : a.block < w.heap.size
    · simp [Array.getElem?_push_lt h, h]
    · by_cases h2 : a.block = w.heap.size
      · simp [h2]
      · rw [Array.getElem?_eq_none (by simp; omega), Array.getElem?_eq_none (by omega)]⟩
  have hn : ι s.h.next = none := T.full _ (Nat.le_refl _)
  have le := Emb.le_upd ⟨w.heap.size, 0, 0⟩ hn
  refine hK _ (List.mem_singleton.2 rfl) _ _ _ { st := ?_, fin := F, full := ?_, its := ?_ }
  · exact T.st.put' hnt le F.hr h2 (.p _ 0 ⟨w.heap.size, 0, 0⟩ (Emb.upd_eq _ _ _))
  · intro p hp
    have hp : s.h.next.nxt.num ≤ p.num := hp
    rw [Pos.num_nxt] at hp
    rw [Emb.upd_ne _ _ (fun e => by subst e; omega)]
    exact T.full p (by omega)
  · have base := T.fin.size
    have old : ∀ p it, getIt p s.its = some it → ∃ M Lb, ι p = some M ∧ M.sh = 0 ∧ w0.heap.size ≤ M.r ∧ ι it.m = some Lb ∧ w.heap[M.r]? = some (.mapIter (some Lb.r) it.since it.seen.toArray it.last) ∧ p ≠ s.h.next := fun p it h => by
      obtain ⟨M, Lb, h1, h2, h3, h4, h5⟩ := T.its.ok p it h
      exact ⟨M, Lb, h1, h2, h3, h4, h5, fun e => by subst e; rw [hn] at h1; cases h1⟩
    have get : ∀ p it, getIt p ((s.h.next, (⟨b, c, [], c⟩ : It)) :: s.its) = some it → (p = s.h.next ∧ it = ⟨b, c, [], c⟩) ∨ getIt p s.its = some it := fun p it h => by
      have h : cond (Pos.eq p s.h.next) (some (⟨b, c, [], c⟩ : It)) (getIt p s.its) = some it := h
      cases q : Pos.eq p s.h.next with
      | true => rw [q] at h; cases h; exact .inl ⟨Pos.eq_true q, rfl⟩
      | false => rw [q] at h; exact .inr h
    constructor
    · intro p it h
      rcases get p it h with ⟨rfl, rfl⟩ | h
      · refine ⟨⟨w.heap.size, 0, 0⟩, L, Emb.upd_eq _ _ _, rfl, base, le.1 _ _ hL, ?_⟩
        show (w.heap.push _)[w.heap.size]? = _
        simp
      · obtain ⟨M, Lb, h1, h2, h3, h4, h5, h6⟩ := old p it h
        refine ⟨M, Lb, le.1 _ _ h1, h2, h3, le.1 _ _ h4, ?_⟩
        show (w.heap.push _)[M.r]? = _
        have hlt := (Array.getElem?_eq_some_iff.1 h5).1
        rw [Array.getElem?_push_lt hlt, ← h5]; simp [hlt]
    · intro p q it jt M N hp hq hM hN e
      have lt : ∀ p it M, getIt p s.its = some it → (ι.upd s.h.next ⟨w.heap.size, 0, 0⟩) p = some M → M.r < w.heap.size ∧ ι p = some M := fun p it M h hM => by
        obtain ⟨M', Lb, h1, h2, h3, h4, h5, h6⟩ := old p it h
        rw [Emb.upd_ne _ _ h6] at hM
        rw [hM] at h1; cases h1
        exact ⟨(Array.getElem?_eq_some_iff.1 h5).1, hM⟩
      rcases get p it hp with ⟨rfl, rfl⟩ | hp'
      · rcases get q jt hq with ⟨rfl, rfl⟩ | hq'
        · rfl
        · have := (lt q jt N hq' hN).1
          rw [Emb.upd_eq] at hM; cases hM
          have e : w.heap.size = N.r := e
          omega
      · rcases get q jt hq with ⟨rfl, rfl⟩ | hq'
        · have := (lt p it M hp' hM).1
          rw [Emb.upd_eq] at hN; cases hN
          have e : M.r = w.heap.size := e
          omega
        · exact T.its.inj p q it jt M N hp' hq' (lt p it M hp' hM).2 (lt q jt N hq' hN).2 e
/-- The world after a step of an iterator. -/
theorem next_step (hnt : nt ≤ 100000) (T : TS nt ι0 H0 w0 ι s a w) {o : Oper} {d : Option Pos} (hd : dstT nt o.dst = some d) {x : Operand} (ho : o.op = .next x false) {y : Od} (hx : od x = some y) {L : List TSt} (hs : stepT cf s (.next d y) = some L)
    {K : Act → World → Prop} {Q : Exit → Act → World → Prop} (hK : ∀ s' ∈ L, ∀ ι' a' w', TS nt ι0 H0 w0 ι' s' a' w' → K a' w') : o.wp P a w K Q := by
  obtain ⟨rfl, h2⟩ := dstT_some hd
  unfold stepT at hs
  simp only [] at hs
  have hv := od_sound T.st.tr hx
  split at hs
  case h_2 => cases hs
  rename_i p hp
  rw [hp] at hv
  split at hs
  case h_2 => cases hs
  rename_i it hit
  split at hs
  case h_2 => cases hs
  rename_i es c hm
  obtain ⟨hok, hs⟩ := cond_some hs
  cases hs
  obtain ⟨M, Lb, m1, m2, m3, m4, m5⟩ := T.its.ok p it hit
  obtain ⟨M', hM', hx'⟩ := vr_p hv
  rw [m1] at hM'; cases hM'
  rw [m2] at hx'
  obtain ⟨es', k1, k2⟩ := map_sound T.st.hr hm m4
  obtain ⟨i, w', g1, g2, g3⟩ := next_run (P := P) ho hx' m5 k1 (next_ok k2 hok)
  unfold Oper.wp
  rcases g3 with ⟨g3, g4⟩ | ⟨e', g3, g4⟩
  · rw [g4, Oper.upon_value]
    have hw' : w'.heap = w.heap.setIfInBounds M.r (.mapIter (some Lb.r) it.since it.seen.toArray it.last) := by
      rw [g1]; symm
      apply Array.ext
      · simp
      · intro j h1 h2
        rw [Array.getElem_setIfInBounds]
        split
        · rename_i e; subst e
          have := Array.getElem?_eq_some_iff.1 m5
          obtain ⟨_, this⟩ := this
          exact this.symm
        · rfl
    have F := T.fin.touch m5 m3 hw' g2
    refine hK (s.put (o.dst.map pos) (.tup [.b false]) s.h) (List.mem_map.2 ⟨none, mem_cands k2 g3, rfl⟩) ι _ w' { st := T.st.put' hnt (Emb.le.refl _) F.hr h2 (.tup _ _ (.cons _ _ _ _ (.b _) .nil)), fin := F, full := T.full, its := ?_ }
    exact ⟨fun q jt h => by rw [g1]; exact T.its.ok q jt h, T.its.inj⟩
  · rw [g4, Oper.upon_value]
    obtain ⟨e, c1, c2, c3, c4⟩ := mem_cands k2 g3
    have hsz := (Array.getElem?_eq_some_iff.1 m5).1
    have F := T.fin.touch (w' := { w' with heap := w.heap.setIfInBounds M.r (.mapIter (some Lb.r) it.since (it.seen.toArray.push e'.born) c) }) m5 m3 rfl ⟨g2.1, g2.2.1, g2.2.2.1, fun b => by
      rw [← g2.2.2.2 b]
      unfold World.frozen?
      rw [g1]
      by_cases hb : b.block = M.r
      · rw [hb, m5, Array.getElem?_setIfInBounds_self_of_lt hsz]
      · rw [Array.getElem?_setIfInBounds_ne (Ne.symm hb)]⟩
    refine hK (nextT s (o.dst.map pos) p it c (some e)) (List.mem_map.2 ⟨some e, c1, rfl⟩) ι _ _ { st := T.st.put' hnt (Emb.le.refl _) F.hr h2 (.tup _ _ (.cons _ _ _ _ (.b _) (.cons _ _ _ _ c2 (.cons _ _ _ _ c3 .nil)))), fin := F, full := T.full, its := ?_ }
    have get : ∀ q jt, getIt q (setIt p (stepIt it c e.born) s.its) = some jt → (q = p ∧ jt = stepIt it c e.born) ∨ (q ≠ p ∧ getIt q s.its = some jt) := fun q jt h => by
      rw [getIt_set] at h
      by_cases d : q = p
      · rw [if_pos d, hit] at h; cases h; exact .inl ⟨d, rfl⟩
      · rw [if_neg d] at h; exact .inr ⟨d, h⟩
    have was : ∀ q jt, getIt q (setIt p (stepIt it c e.born) s.its) = some jt → ∃ jt0, getIt q s.its = some jt0 := fun q jt h => by
      rcases get q jt h with ⟨rfl, _⟩ | ⟨_, h⟩
      · exact ⟨_, hit⟩
      · exact ⟨_, h⟩
    constructor
    · intro q jt h
      rcases get q jt h with ⟨rfl, rfl⟩ | ⟨hne, h⟩
      · refine ⟨M, Lb, m1, m2, m3, m4, ?_⟩
        show (w.heap.setIfInBounds M.r _)[M.r]? = some (.mapIter (some Lb.r) it.since (it.seen ++ [e.born]).toArray c)
        rw [Array.getElem?_setIfInBounds_self_of_lt hsz, c4]; simp
      · obtain ⟨N, Nb, n1, n2, n3, n4, n5⟩ := T.its.ok q jt h
        refine ⟨N, Nb, n1, n2, n3, n4, ?_⟩
        show (w.heap.setIfInBounds M.r _)[N.r]? = _
        rw [Array.getElem?_setIfInBounds_ne fun e => hne (T.its.inj q p jt it N M h hit n1 m1 e.symm)]
        exact n5
    · intro q r it1 it2 N1 N2 hq hr e1 e2 e3
      obtain ⟨j1, u1⟩ := was q it1 hq
      obtain ⟨j2, u2⟩ := was r it2 hr
      exact T.its.inj q r j1 j2 N1 N2 u1 u2 e1 e2 e3
theorem entry_step (hnt : nt ≤ 100000) (T : TS nt ι0 H0 w0 ι s a w) {o : Oper} {d : Option Pos} (hd : dstT nt o.dst = some d) {x : Operand} (ho : o.op = .entry x) {y : Od} (hx : od x = some y) {L : List TSt} (hs : stepT cf s (.entry d y) = some L)
    {K : Act → World → Prop} {Q : Exit → Act → World → Prop} (hK : ∀ s' ∈ L, ∀ ι' a' w', TS nt ι0 H0 w0 ι' s' a' w' → K a' w') : o.wp P a w K Q := by
  obtain ⟨rfl, h2⟩ := dstT_some hd
  unfold stepT at hs
  simp only [] at hs
  have hv := od_sound T.st.tr hx
  split at hs
  case h_2 => cases hs
  rename_i p hp
  rw [hp] at hv
  split at hs
  case h_2 => cases hs
  rename_i it hit
  split at hs
  case h_2 => cases hs
  rename_i es c st hm hst
  obtain ⟨hc, hs⟩ := cond_some hs
  split at hs
  case h_2 => cases hs
  rename_i e he
  cases hs
  obtain ⟨M, Lb, m1, m2, m3, m4, m5⟩ := T.its.ok p it hit
  obtain ⟨M', hM', hx'⟩ := vr_p hv
  rw [m1] at hM'; cases hM'
  rw [m2] at hx'
  obtain ⟨es', k1, k2⟩ := map_sound T.st.hr hm m4
  obtain ⟨e', f1, f2, f3⟩ := ers_find k2 he
  unfold Oper.wp
  rw [entry_run (stamp := st) ho hx' m5 k1 (by simpa using hst) (Nat.eq_of_beq_eq_true hc) (by rw [← Array.find?_toList]; exact f1), Oper.upon_value]
  exact hK _ (List.mem_singleton.2 rfl) _ _ _ (T.put hnt (.refl T.st.hr) h2 (.tup _ _ (.cons _ _ _ _ f2 (.cons _ _ _ _ f3 .nil))))
theorem bnd_step (hnt : nt ≤ 100000) (T : TS nt ι0 H0 w0 ι s a w) {o : Oper} {d : Option Pos} (hd : dstT nt o.dst = some d) {n : Nat} {first : Array Operand} (hn : n < 1000000) (ho : o.op = .makeFunc (.func n) first #[]) {xs : List Od} (hx : ods first.toList = some xs) {L : List TSt} (hs : stepT cf s (.bnd d n xs) = some L)
    {K : Act → World → Prop} {Q : Exit → Act → World → Prop} (hK : ∀ s' ∈ L, ∀ ι' a' w', TS nt ι0 H0 w0 ι' s' a' w' → K a' w') : o.wp P a w K Q := by
  obtain ⟨rfl, h2⟩ := dstT_some hd
  cases hs
  have hv := ods_sound T.st.tr hx
  unfold Oper.wp
  rw [bound_run ho, Oper.upon_value]
  exact hK _ (List.mem_singleton.2 rfl) _ _ _ (T.put hnt (.refl T.st.hr) h2 (.fb n hn _ _ (by rw [Array.toList_map]; exact hv)))
end
end Go.Fg
/- The ideal machine with lists of outcomes: code, functions, calls; its answers are the model's. -/
namespace Go.Fg

theorem bindAll_mem {α β : Type} {f : α → Option (List β)} : ∀ {L : List α} {M : List β}, bindAll f L = some M → ∀ x ∈ L, ∃ A, f x = some A ∧ ∀ y ∈ A, y ∈ M
  | [], _, _, x, hx => by cases hx
  | z :: r, M, h, x, hx => by
    unfold bindAll at h
    split at h
    · rename_i a b ha hb
      cases h
      rcases List.mem_cons.1 hx with rfl | hx
      · exact ⟨a, ha, fun y hy => List.mem_append_left _ hy⟩
      · obtain ⟨A, h1, h2⟩ := bindAll_mem hb x hx
        exact ⟨A, h1, fun y hy => List.mem_append_right _ (h2 y hy)⟩
    · cases h

section
variable {P : Program} {cf : CallT} {nt : Nat} {ι0 ι : Emb} {H0 : Hp} {w0 w : World} {s : TSt} {a : Act}

theorem stepT_bad {s : TSt} : stepT cf s badT = none := rfl
/-- One operation. -/
theorem one_step (hcf : CSimT P cf) (hnt : nt ≤ 100000) (T : TS nt ι0 H0 w0 ι s a w) {o : Oper} {L : List TSt} (hs : stepT cf s (compT P nt o) = some L)
    {K : Act → World → Prop} {Q : Exit → Act → World → Prop} (hK : ∀ s' ∈ L, ∀ ι' a' w', TS nt ι0 H0 w0 ι' s' a' w' → K a' w') : o.guard = none ∧ o.wp P a w K Q := by
  unfold compT at hs
  split at hs
  case h_2 => rw [stepT_bad] at hs; cases hs
  rename_i d hg hd
  refine ⟨hg, ?_⟩
  split at hs
  · rename_i t x ho
    split at hs
    · rename_i k e y hu hx
      exact range_step hnt T hd ho hu hx hs hK
    · rw [stepT_bad] at hs; cases hs
  · rename_i x ho
    split at hs
    · rename_i y hx
      exact next_step hnt T hd ho hx hs hK
    · rw [stepT_bad] at hs; cases hs
  · rename_i x ho
    split at hs
    · rename_i y hx
      exact entry_step hnt T hd ho hx hs hK
    · rw [stepT_bad] at hs; cases hs
  · rename_i n first captured ho
    cases c : Nat.blt n 1000000 with
    | false => rw [c] at hs; cases hs
    | true =>
      rw [c] at hs
      have hs : stepT cf s (match captured.toList, first.toList with
        | [], y :: l => match ods (y :: l) with
          | some xs => .bnd d n xs
          | none => badT
        | _, _ => .base ⟨d, (compOp P o).getD .bad, none, 0, false⟩) = some L := hs
      cases hc : captured.toList with
      | cons z t => rw [hc] at hs; exact base_step hnt T hd hs hK
      | nil =>
        rw [hc] at hs
        have hc : captured = #[] := by simpa using hc
        subst hc
        cases hf : first.toList with
        | nil => rw [hf] at hs; exact base_step hnt T hd hs hK
        | cons y l =>
          rw [hf] at hs
          have hs : stepT cf s (match ods (y :: l) with | some xs => .bnd d n xs | none => badT) = some L := hs
          cases hx : ods (y :: l) with
          | none => rw [hx] at hs; cases hs
          | some xs => rw [hx] at hs; exact bnd_step hnt T hd (Nat.le_of_ble_eq_true c) ho (by rw [hf]; exact hx) hs hK
  · rename_i c ho
    split at hs
    · rename_i f xs hc
      exact call_step hcf hnt T hd hc hs hK
    · rename_i io hc
      exact base_step hnt T hd (by rw [hc]; exact hs) hK
    · rw [stepT_bad] at hs; cases hs
  · exact base_step hnt T hd hs hK
theorem opsT_sound (hcf : CSimT P cf) (hnt : nt ≤ 100000) {ops : Array Oper} {Q : Exit → Act → World → Prop} : ∀ (l : List Oper) (k : Nat) {ι : Emb} {s : TSt} {a : Act} {w : World} {L : List TSt},
    (∀ j, l[j]? = ops[k + j]?) → TS nt ι0 H0 w0 ι s a w → opsT cf (l.map (compT P nt)) s = some L → (∀ s' ∈ L, ∀ ι' a' w', TS nt ι0 H0 w0 ι' s' a' w' → Q .normal a' w') → wpOps P ops Q (List.range' k l.length) a w
  | [], k, ι, s, a, w, L, hl, T, h, hQ => by
    cases h
    exact hQ _ (List.mem_singleton.2 rfl) _ _ _ T
  | o :: r, k, ι, s, a, w, L, hl, T, h, hQ => by
    have h : (match stepT cf s (compT P nt o) with | some L1 => bindAll (opsT cf (r.map (compT P nt))) L1 | none => none) = some L := h
    split at h
    case h_2 => cases h
    rename_i L1 h1
    have hk : ops[k]? = some o := by simpa using (hl 0).symm
    have hl' : ∀ j, r[j]? = ops[k + 1 + j]? := fun j => by
      have := hl (j + 1)
      simpa [Nat.add_assoc, Nat.add_comm 1 j] using this
    show wpOps P ops Q (k :: List.range' (k + 1) r.length) a w
    unfold wpOps
    rw [hk]
    simp only []
    obtain ⟨g, st⟩ := one_step hcf hnt T h1 (K := fun a' w' => wpOps P ops Q (List.range' (k + 1) r.length) a' w') (Q := Q) fun s' hs' ι' a' w' T' => by
      obtain ⟨A, e1, e2⟩ := bindAll_mem h s' hs'
      exact opsT_sound hcf hnt r (k + 1) hl' T' e1 fun s2 h2 => hQ s2 (e2 s2 h2)
    have hw : Region.wanted o (yielded ops a.tmps) = true := by unfold Region.wanted; rw [g]
    rw [hw]
    simp only [if_true]
    exact .inl st

/-! Regions whose order is open. -/
theorem readyT_mem {done : List Nat} {i : Nat} {x : TOp} : ∀ {l : List (TOp × List Nat)} {k : Nat}, (i, x) ∈ readyT done k l ↔ ∃ j d, i = k + j ∧ l[j]? = some (x, d) ∧ hasN i done = false ∧ subN d done = true
  | [], k => ⟨fun h => (by cases h), fun ⟨j, d, _, h, _⟩ => (by simp at h)⟩
  | y :: r, k => by
    have ih := readyT_mem (done := done) (i := i) (x := x) (l := r) (k := k + 1)
    have rest : (i, x) ∈ readyT done (k + 1) r ↔ ∃ j d, i = k + (j + 1) ∧ r[j]? = some (x, d) ∧ hasN i done = false ∧ subN d done = true := by
      rw [ih]
      exact ⟨fun ⟨j, d, h1, h2⟩ => ⟨j, d, by omega, h2⟩, fun ⟨j, d, h1, h2⟩ => ⟨j, d, by omega, h2⟩⟩
    show (i, x) ∈ cond (!(hasN k done) && subN y.2 done) ((k, y.1) :: readyT done (k + 1) r) (readyT done (k + 1) r) ↔ _
    constructor
    · intro h
      cases c : (!(hasN k done) && subN y.2 done) with
      | false =>
        rw [c] at h
        obtain ⟨j, d, h1, h2, h3⟩ := rest.1 h
        exact ⟨j + 1, d, h1, by simpa using h2, h3⟩
      | true =>
        rw [c] at h
        rcases List.mem_cons.1 h with h | h
        · cases h
          rw [Bool.and_eq_true, Bool.not_eq_true'] at c
          exact ⟨0, y.2, rfl, rfl, c.1, c.2⟩
        · obtain ⟨j, d, h1, h2, h3⟩ := rest.1 h
          exact ⟨j + 1, d, h1, by simpa using h2, h3⟩
    · rintro ⟨j, d, h1, h2, h3, h4⟩
      cases j with
      | zero =>
        simp at h2
        subst h2
        have h1 : i = k := h1
        subst h1
        rw [h3, h4]; exact List.mem_cons_self ..
      | succ j =>
        have : (i, x) ∈ readyT done (k + 1) r := rest.2 ⟨j, d, h1, by simpa using h2, h3, h4⟩
        cases (!(hasN k done) && subN y.2 done) with
        | false => exact this
        | true => exact List.mem_cons_of_mem _ this
noncomputable def listT (P : Program) (nt : Nat) (ops : Array Oper) : List (TOp × List Nat) := ops.toList.map fun o => (compT P nt o, (o.after.toList.filter (Region.binds .any)).map (·.on))
theorem ready_iff {ops : Array Oper} {listed : Array Bool} {done : List Nat} (hs : listed.size = ops.size) (hD : ∀ i, listed.getD i false = hasN i done) {i : Nat} : i ∈ Region.ready .any ops listed ↔ ∃ o, ops[i]? = some o ∧ (i, compT P nt o) ∈ readyT done 0 (listT P nt ops) := by
  have sub : ∀ o : Oper, subN ((o.after.toList.filter (Region.binds .any)).map (·.on)) done = true ↔ ∀ e ∈ o.after.toList, Region.binds .any e = true → listed.getD e.on false = true := fun o => by
    unfold subN
    rw [List.all_eq_true]
    constructor
    · intro h e he hb
      rw [hD]; exact h _ (List.mem_map.2 ⟨e, List.mem_filter.2 ⟨he, hb⟩, rfl⟩)
    · intro h n hn
      obtain ⟨e, he, rfl⟩ := List.mem_map.1 hn
      obtain ⟨h1, h2⟩ := List.mem_filter.1 he
      rw [← hD]; exact h e h1 h2
  have at_ : ∀ o, ops[i]? = some o → (listT P nt ops)[i]? = some (compT P nt o, (o.after.toList.filter (Region.binds .any)).map (·.on)) := fun o ho => by
    unfold listT
    rw [List.getElem?_map, Array.getElem?_toList, ho]; rfl
  have gd : i < ops.size → listed.getD i true = listed.getD i false := fun h => by simp [Array.getD, hs, h]
  rw [ready_mem]
  constructor
  · rintro ⟨h1, h2, o, h3, h4⟩
    refine ⟨o, h3, readyT_mem.2 ⟨i, _, (Nat.zero_add i).symm, at_ o h3, ?_, (sub o).2 h4⟩⟩
    rw [← hD, ← gd h1]; exact h2
  · rintro ⟨o, h3, h4⟩
    obtain ⟨j, d, h5, h6, h7, h8⟩ := readyT_mem.1 h4
    have e : i = j := by omega
    subst e
    have h1 := (Array.getElem?_eq_some_iff.1 h3).1
    rw [at_ o h3] at h6
    cases h6
    exact ⟨h1, by rw [gd h1, hD]; exact h7, o, h3, (sub o).1 h8⟩
theorem Fin.same {ι0 ι : Emb} {H0 H : Hp} {w0 w w' : World} (F : Fin ι0 H0 w0 ι H w) (hw : w'.heap = w.heap) (ho : sameOut w w') : Fin ι0 H0 w0 ι H w' where
  ext := F.ext
  fresh := F.fresh
  hr := {
    pro := fun x r sh h => (F.hr.pro x r sh h).mono (Emb.le.refl _) (by rw [hw])
    apart := F.hr.apart
    blk := fun b x L h1 h2 => (F.hr.blk b x L h1 h2).mono (Emb.le.refl _) (by rw [hw])
    inj := F.hr.inj
    lt := fun b L h => by rw [hw]; exact F.hr.lt b L h
    low := F.hr.low }
  up := F.up
  size := by rw [hw]; exact F.size
  frame := fun r hr hc => by rw [hw]; exact F.frame r hr hc
  cover := F.cover
  icov := F.icov
  still := F.still
  out := F.out.trans ho
theorem TS.same (T : TS nt ι0 H0 w0 ι s a w) {w' : World} (hw : w'.heap = w.heap) (ho : sameOut w w') : TS nt ι0 H0 w0 ι s a w' where
  st := ⟨T.st.tr, (T.fin.same hw ho).hr, T.st.size, T.st.def_⟩
  fin := T.fin.same hw ho
  full := T.full
  its := ⟨fun p it h => by rw [hw]; exact T.its.ok p it h, T.its.inj⟩
theorem anyT_sound (hcf : CSimT P cf) (hnt : nt ≤ 100000) {ops : Array Oper} {Q : Exit → Act → World → Prop} : ∀ (fuel : Nat) {listed : Array Bool} {done : List Nat} {ι : Emb} {s : TSt} {a : Act} {w : World} {L : List TSt}, listed.size = ops.size → (∀ i, listed.getD i false = hasN i done) →
    TS nt ι0 H0 w0 ι s a w → anyT cf (listT P nt ops) fuel done s = some L → (∀ s' ∈ L, ∀ ι' a' w', TS nt ι0 H0 w0 ι' s' a' w' → Q .normal a' w') → wpAny P .any ops Q fuel listed a w := by
  have none_ready : ∀ {listed : Array Bool} {done : List Nat}, listed.size = ops.size → (∀ i, listed.getD i false = hasN i done) → (Region.ready .any ops listed = [] ↔ readyT done 0 (listT P nt ops) = []) := by
    intro listed done hs hD
    constructor
    · intro h
      rw [List.eq_nil_iff_forall_not_mem]
      rintro ⟨i, x⟩ hx
      obtain ⟨j, d, h1, h2, h3, h4⟩ := readyT_mem.1 hx
      have e : i = j := by omega
      subst e
      have h5 := h2
      unfold listT at h5
      rw [List.getElem?_map] at h5
      cases ho : ops.toList[i]? with
      | none => rw [ho] at h5; cases h5
      | some o =>
        rw [ho] at h5
        have h5 : some (compT P nt o, (o.after.toList.filter (Region.binds .any)).map (·.on)) = some (x, d) := h5
        cases h5
        have := (ready_iff (P := P) (nt := nt) hs hD).2 ⟨o, by simpa using ho, hx⟩
        rw [h] at this; cases this
    · intro h
      rw [List.eq_nil_iff_forall_not_mem]
      intro i hi
      obtain ⟨o, _, h2⟩ := (ready_iff (P := P) (nt := nt) hs hD).1 hi
      rw [h] at h2; cases h2
  intro fuel
  induction fuel with
  | zero =>
    intro listed done ι s a w L hs hD T h hQ
    have h : cond (isNil (readyT done 0 (listT P nt ops))) (some [s]) none = some L := h
    obtain ⟨c, h⟩ := cond_some h
    cases h
    exact ⟨(none_ready hs hD).2 (isNil_iff.1 c), hQ _ (List.mem_singleton.2 rfl) _ _ _ T⟩
  | succ fuel ih =>
    intro listed done ι s a w L hs hD T h hQ
    have h : cond (isNil (readyT done 0 (listT P nt ops))) (some [s]) (bindAll (fun (x : Nat × TOp) => match stepT cf s x.2 with
      | some L => bindAll (anyT cf (listT P nt ops) fuel (x.1 :: done)) L
      | none => none) (readyT done 0 (listT P nt ops))) = some L := h
    refine ⟨fun hr => ?_, fun i hi => ?_⟩
    · rw [isNil_iff.2 ((none_ready hs hD).1 hr)] at h
      cases h
      exact hQ _ (List.mem_singleton.2 rfl) _ _ _ T
    · obtain ⟨o, h1, h2⟩ := (ready_iff (P := P) (nt := nt) hs hD).1 hi
      cases c : isNil (readyT done 0 (listT P nt ops)) with
      | true => rw [isNil_iff.1 c] at h2; cases h2
      | false =>
        rw [c] at h
        obtain ⟨A, e1, e2⟩ := bindAll_mem h _ h2
        simp only [] at e1
        split at e1
        case h_2 => cases e1
        rename_i L1 hL1
        have hlt := (Array.getElem?_eq_some_iff.1 h1).1
        obtain ⟨g, st⟩ := one_step hcf hnt T hL1 (K := fun a' w' => wpAny P .any ops Q fuel (listed.setIfInBounds i true) a' w') (Q := Q) fun s' hs' ι' a' w' T' => by
          obtain ⟨B, f1, f2⟩ := bindAll_mem e1 s' hs'
          refine ih (done := i :: done) (by simpa using hs) (fun j => ?_) T' f1 fun s2 h3 => hQ s2 (e2 s2 (f2 s2 h3))
          show _ = cond (Nat.beq j i) true (hasN j done)
          by_cases e : j = i
          · subst e; simp [Array.getD, hs, hlt]
          · rw [beq_no e]
            show _ = hasN j done
            rw [← hD j]
            simp only [Array.getD_eq_getD_getElem?]
            rw [Array.getElem?_setIfInBounds_ne (Ne.symm e)]
        have hw : Region.wanted o (yielded ops a.tmps) = true := by unfold Region.wanted; rw [g]
        unfold wpOp
        rw [h1]
        simp only []
        rw [hw]
        simp only [if_true]
        exact .inl st

/-- How a piece of code comes out. -/
def LandT (nt : Nat) (ι0 : Emb) (H0 : Hp) (w0 : World) : TOut → Exit → Act → World → Prop
  | .nrm s, e, a, w => e = .normal ∧ ∃ ι, TS nt ι0 H0 w0 ι s a w
  | .ret s, e, a, w => e = .ret ∧ ∃ ι, TS nt ι0 H0 w0 ι s a w
  | .exit id s, e, a, w => e = .exit id ∧ ∃ ι, TS nt ι0 H0 w0 ι s a w
def LandsT (nt : Nat) (ι0 : Emb) (H0 : Hp) (w0 : World) (L : List TOut) (e : Exit) (a : Act) (w : World) : Prop := ∃ o ∈ L, LandT nt ι0 H0 w0 o e a w

theorem seqT_sound {x : Code} {k : TSt → Option (List TOut)} {X : Option (List TOut)} {M : List TOut} {Q : Exit → Act → World → Prop} {K : Act → World → Prop} (h : seqT X k = some M)
    (hx : ∀ L, X = some L → x.wp P (LandsT nt ι0 H0 w0 L) a w) (hQ : ∀ e a' w', e ≠ .normal → LandsT nt ι0 H0 w0 M e a' w' → Q e a' w')
    (hK : ∀ s' A, k s' = some A → (∀ y ∈ A, y ∈ M) → ∀ ι' a' w', TS nt ι0 H0 w0 ι' s' a' w' → K a' w') : x.wp P (Exit.then K Q) a w := by
  unfold seqT at h
  split at h
  case h_2 => cases h
  rename_i L
  refine wp_mono (hx L rfl) ?_
  rintro e a1 w1 ⟨o, ho, hl⟩
  obtain ⟨A, e1, e2⟩ := bindAll_mem h o ho
  cases o with
  | nrm s' =>
    obtain ⟨rfl, ι', T⟩ := hl
    exact hK s' A e1 e2 ι' a1 w1 T
  | ret s' =>
    cases e1
    obtain ⟨rfl, h⟩ := hl
    exact hQ _ _ _ (by simp) ⟨_, e2 _ (List.mem_singleton.2 rfl), rfl, h⟩
  | exit id s' =>
    cases e1
    obtain ⟨rfl, h⟩ := hl
    exact hQ _ _ _ (by simp) ⟨_, e2 _ (List.mem_singleton.2 rfl), rfl, h⟩
theorem roundsT_sound {x : Code} {body : TSt → Option (List TOut)} (hx : ∀ {ι : Emb} {s : TSt} {a : Act} {w : World} {L : List TOut}, TS nt ι0 H0 w0 ι s a w → body s = some L → x.wp P (LandsT nt ι0 H0 w0 L) a w) {Q : Exit → Act → World → Prop} :
    ∀ (n : Nat) {ι : Emb} {s : TSt} {a : Act} {w : World} {M : List TOut}, loopT body n s = some M → TS nt ι0 H0 w0 ι s a w → (∀ e a' w', LandsT nt ι0 H0 w0 M e a' w' → Q e a' w') → Code.rounds P x Q n a w
  | 0, ι, s, a, w, M, h, T, hQ => by cases h
  | n + 1, ι, s, a, w, M, h, T, hQ => by
    rw [rounds_succ]
    have h : seqT (body s) (loopT body n) = some M := h
    exact seqT_sound h (fun L hL => hx T hL) (fun e a' w' _ k => hQ e a' w' k) fun s' A e1 e2 ι' a' w' T' => roundsT_sound hx n e1 T' fun e a2 w2 ⟨o, ho, hl⟩ => hQ e a2 w2 ⟨o, e2 o ho, hl⟩
theorem semT_sound (hm : P.follows .mixedOrders = true) (hcf : CSimT P cf) {N : Nat} (hnt : nt ≤ 100000) : ∀ (c : Code) {ι : Emb} {s : TSt} {a : Act} {w : World} {L : List TOut}, TS nt ι0 H0 w0 ι s a w → semT N cf (compTC P nt c) s = some L → c.wp P (LandsT nt ι0 H0 w0 L) a w := by
  intro c
  induction c with
  | skip => intro ι s a w L T h; cases h; exact wp_skip ⟨_, List.mem_singleton.2 rfl, rfl, ι, T⟩
  | ret => intro ι s a w L T h; cases h; exact wp_ret ⟨_, List.mem_singleton.2 rfl, rfl, ι, T⟩
  | exit id => intro ι s a w L T h; cases h; exact wp_exit ⟨_, List.mem_singleton.2 rfl, rfl, ι, T⟩
  | region id ops draw =>
    intro ι s a w L T h
    cases draw with
    | true =>
      have h : (match anyT cf (listT P nt ops) (listT P nt ops).length [] s with | some L => some (L.map TOut.nrm) | none => none) = some L := h
      have hlen : (listT P nt ops).length = ops.size := by unfold listT; simp
      rw [hlen] at h
      split at h
      case h_2 => cases h
      rename_i L1 h1
      cases h
      refine wp_region_any hm (anyT_sound hcf hnt ops.size (done := []) (by simp) (fun i => ?_) (T.same rfl ⟨rfl, rfl, rfl, fun _ => rfl⟩) h1 fun s' hs' ι' a' w' T' => ⟨_, List.mem_map.2 ⟨s', hs', rfl⟩, rfl, ι', T'⟩)
      show _ = false
      simp [Array.getD]
    | false =>
      refine wp_region ?_
      have h : (match opsT cf (ops.toList.map (compT P nt)) s with | some L => some (L.map TOut.nrm) | none => none) = some L := h
      split at h
      case h_2 => cases h
      rename_i L1 h1
      cases h
      have := opsT_sound (Q := LandsT nt ι0 H0 w0 (L1.map TOut.nrm)) hcf hnt (ops := ops) ops.toList 0 (fun j => by simp) T h1 fun s' hs' ι' a' w' T' => ⟨_, List.mem_map.2 ⟨s', hs', rfl⟩, rfl, ι', T'⟩
      rwa [Array.length_toList, ← List.range_eq_range'] at this
  | seq x y ihx ihy =>
    intro ι s a w L T h
    have h : seqT (semT N cf (compTC P nt x) s) (semT N cf (compTC P nt y)) = some L := h
    exact wp_seq (seqT_sound h (fun L1 h1 => ihx T h1) (fun e a' w' _ k => k) fun s' A e1 e2 ι' a' w' T' => wp_mono (ihy T' e1) fun e a2 w2 ⟨o, ho, hl⟩ => ⟨o, e2 o ho, hl⟩)
  | cond o x y ihx ihy =>
    intro ι s a w L T h
    unfold compTC at h
    cases ho : od o with
    | none => simp only [ho] at h; cases h
    | some u =>
      simp only [ho] at h
      have hv := od_sound T.st.tr ho
      have h : (match u.ev s.τ with | .b true => semT N cf (compTC P nt x) s | .b false => semT N cf (compTC P nt y) s | _ => none) = some L := h
      generalize u.ev s.τ = q at h hv
      cases q with
      | b t =>
        have hb := vr_b hv
        cases t with
        | true => exact wp_cond_true hb (ihx T h)
        | false => exact wp_cond_false hb (ihy T h)
      | _ => cases h
  | block id x ih =>
    intro ι s a w L T h
    have h : (match semT N cf (compTC P nt x) s with | some L => some (L.map (blockT id)) | none => none) = some L := h
    split at h
    case h_2 => cases h
    rename_i L1 h1
    cases h
    refine wp_block (wp_mono (ih T h1) ?_)
    rintro e a1 w1 ⟨o, ho, hl⟩
    cases o with
    | nrm s' => obtain ⟨rfl, h⟩ := hl; exact ⟨_, List.mem_map.2 ⟨_, ho, rfl⟩, rfl, h⟩
    | ret s' => obtain ⟨rfl, h⟩ := hl; exact ⟨_, List.mem_map.2 ⟨_, ho, rfl⟩, rfl, h⟩
    | exit k s' =>
      obtain ⟨rfl, hT⟩ := hl
      have hm : blockT id (.exit k s') ∈ L1.map (blockT id) := List.mem_map.2 ⟨_, ho, rfl⟩
      have e : blockT id (.exit k s') = cond (Nat.beq k id) (.nrm s') (.exit k s') := rfl
      rw [e] at hm
      show (if k = id then LandsT nt ι0 H0 w0 _ .normal a1 w1 else LandsT nt ι0 H0 w0 _ (.exit k) a1 w1)
      by_cases hk : k = id
      · subst hk
        rw [if_pos rfl]; rw [Nat.beq_refl] at hm
        exact ⟨_, hm, rfl, hT⟩
      · rw [if_neg hk]; rw [beq_no hk] at hm
        exact ⟨_, hm, rfl, hT⟩
  | loop x ih =>
    intro ι s a w L T h
    have h : loopT (semT N cf (compTC P nt x)) N s = some L := h
    exact wp_loop_rounds N (roundsT_sound (fun T h => ih T h) N h T fun e a' w' k => k)
  | _ => intro ι s a w L T h; cases h

theorem compTFn_some {n : Nat} {f : TFn} (h : compTFn P n = some f) : ∃ fn c, P.funcs[n]? = some fn ∧ fn.body = some c ∧ compRes P fn.results.toList = some f.res ∧ fn.ntmps ≤ 100000 ∧ fn.name ≠ "runtime.NumGoroutine" ∧ f.body = compTC P fn.ntmps c := by
  unfold compTFn at h
  split at h
  · rename_i fn hfn
    split at h
    · rename_i c rs hb hr
      split at h
      · rename_i hc
        cases h
        exact ⟨fn, c, hfn, hb, hr, hc.1, hc.2, rfl⟩
      · cases h
    · cases h
  · cases h
theorem callFnT_sound (hm : P.follows .mixedOrders = true) (hcf : CSimT P cf) {N n : Nat} {f : TFn} (hc : compTFn P n = some f) {args : List IV} {h : Hp} {L : List (IV × Hp)} (e : callFnT N cf f args h = some L) :
    (∃ fn, P.funcs[n]? = some fn ∧ fn.body.isNone = false ∧ (fn.name == "runtime.NumGoroutine") = false) ∧
    ∀ (ι : Emb) (w : World) (args' : Array Value), VRs ι args args'.toList → HR ι h w → FullF ι h →
      Calls P n args' w fun e w' => ∃ r ∈ L, ∃ v' ι', e = .returned v' ∧ VR ι' r.1 v' ∧ Fin ι h w ι' r.2 w' := by
  obtain ⟨fn, c, h1, h2, h3, h4, h5, h6⟩ := compTFn_some hc
  refine ⟨⟨fn, h1, by rw [h2]; rfl, by simpa using h5⟩, fun ι w args' hargs hH hfull => ?_⟩
  unfold callFnT at e
  rw [h6] at e
  split at e
  case h_2 => cases e
  rename_i L1 hL
  refine calls_of_wp h1 h2 ?_
  have hs : TS fn.ntmps ι h w ι ⟨frameOf args .h .nil, h, []⟩ { tmps := args' ++ Array.replicate (fn.ntmps - args'.size) undef, defers := [] } w := ⟨⟨frame_sound hargs, hH, by simp; omega, rfl⟩, .refl hH, hfull, ⟨fun p it k => (by cases k), fun p q it jt _ _ k => (by cases k)⟩⟩
  refine wp_mono (semT_sound hm hcf h4 c hs hL) ?_
  rintro e2 a2 w2 ⟨o, ho, hl⟩
  obtain ⟨A, e1, e3⟩ := bindAll_mem e o ho
  have fin : ∀ s', (match resultsI s'.τ s'.h f.res with | some vs => some [(oneOf vs, s'.h)] | none => none) = some A → ∀ ι', TS fn.ntmps ι h w ι' s' a2 w2 → ∃ v', (results fn a2.tmps).run P w2 = .ok v' w2 ∧ ∃ r ∈ L, ∃ v2 ι', Ending.returned v' = .returned v2 ∧ VR ι' r.1 v2 ∧ Fin ι h w ι' r.2 w2 := fun s' hr ι' T => by
    split at hr
    case h_2 => cases hr
    rename_i vs k2
    cases hr
    obtain ⟨v', r1, r2⟩ := results_sound T.st.tr T.st.hr h3 k2
    exact ⟨v', r1, _, e3 _ (List.mem_singleton.2 rfl), v', ι', rfl, r2, T.fin⟩
  cases o with
  | nrm s' =>
    obtain ⟨rfl, ι', T⟩ := hl
    obtain ⟨v', r1, r2⟩ := fin s' e1 ι' T
    exact ⟨T.st.def_, v', r1, r2⟩
  | ret s' =>
    obtain ⟨rfl, ι', T⟩ := hl
    obtain ⟨v', r1, r2⟩ := fin s' e1 ι' T
    exact ⟨T.st.def_, v', r1, r2⟩
  | exit id s' => cases e1
theorem callNT_sound (hm : P.follows .mixedOrders = true) {cf : CallF} (hcf : CSim P cf) {T : Pos → Option TFn} (hT : ∀ n f, n < 1000000 → T (pos n) = some f → compTFn P n = some f) {N : Nat} : ∀ n, CSimT P (callNT cf T N n)
  | 0 => fun _ _ _ _ _ e => by cases e
  | n + 1 => fun g args h L hg e => by
    have e : (match T (pos g) with | some fn => callFnT N (callNT cf T N n) fn args h | none => match cf (pos g) args h with | some r => some [r] | none => none) = some L := e
    split at e
    · rename_i f hf
      exact callFnT_sound hm (callNT_sound hm hcf hT n) (hT g f hg hf) e
    · split at e
      case h_2 => cases e
      rename_i r hr
      cases e
      obtain ⟨k1, k2⟩ := hcf g args h _ _ hg hr
      refine ⟨k1, fun ι w args' hv hH hF => (k2 ι w args' hv hH (hF.free _)).mono ?_⟩
      rintro e w' ⟨v', ι', h1, h2, h3⟩
      exact ⟨r, List.mem_singleton.2 rfl, v', ι', h1, h2, h3⟩
/-- Does each outcome have this content? -/
noncomputable def allTell (u : IV) : List (IV × Hp) → Bool
  | [] => true
  | r :: t => match frz r.2 r.1 with
    | some (x, _) => cond (beqDeep x u) (allTell u t) false
    | none => false
theorem allTell_mem {u : IV} : ∀ {L : List (IV × Hp)}, allTell u L = true → ∀ r ∈ L, ∃ h3, frz r.2 r.1 = some (u, h3)
  | [], _, r, h => by cases h
  | x :: t, h, r, hr => by
    unfold allTell at h
    split at h
    · rename_i y h3 e
      cases c : beqDeep y u with
      | false => rw [c] at h; cases h
      | true =>
        rw [c] at h
        rcases List.mem_cons.1 hr with rfl | hr
        · rw [beqDeep_eq _ c] at e; exact ⟨h3, e⟩
        · exact allTell_mem h r hr
    · cases h
theorem tells_T {cf : CallT} (hcf : CSimT P cf) {n : Nat} {args : List IV} {u : IV} {L : List (IV × Hp)} (hn : n < 1000000) (e : cf (pos n) args Hp.empty = some L) (hu : allTell u L = true) : Tells P n args u := by
  obtain ⟨k1, k2⟩ := hcf n args _ L hn e
  refine ⟨k1, fun ι w args'' hv hH => (k2 ι.bare w args'' hv hH (fun _ _ => rfl)).mono ?_⟩
  rintro e w' ⟨r, hr, v', ι', rfl, m1, m2⟩
  obtain ⟨h3, e3⟩ := allTell_mem hu r hr
  obtain ⟨ι2, f1, f2, f3⟩ := frz_sound (P := P) m2.hr m1 e3
  exact ⟨v', ι2, h3, rfl, f3, m2.trans f1⟩
end
end Go.Fg
/- The ideal machine: a law without input. -/
namespace Go.Fg

theorem Fin.grown {ι ι' : Emb} {H H' : Hp} {w w' : World} (f : Fin ι H w ι' H' w') (hn : ∀ b L, ι b = some L → H.get b = none) : RowKit.Grown w w' := by
  refine ⟨⟨f.out.2.1, f.out.2.2.1, fun i hi => ?_⟩, f.out.2.2.2, f.size⟩
  rw [f.frame i hi fun b L h1 h2 => absurd (hn b L h1) h2]
  generalize w.heap[i]? = o
  cases o with
  | none => rfl
  | some o => cases o <;> simp

/-- A function without parameters that tells 'true' returns true in every world. -/
theorem closed_true {P : Program} {k : Nat} (h : Tells P k [] (.b true)) (w : World) : Calls P k #[] w fun e w' => e = .returned (.bool true) ∧ RowKit.Grown w w' := by
  have hr : HR (Emb.bare ⟨fun _ => none, fun _ _ _ => False⟩) Hp.empty w :=
    { pro := fun x r sh h => h.elim
      apart := fun b x L y r sh hb => by rw [Hp.get_empty] at hb; cases hb
      blk := fun b x L hb => by rw [Hp.get_empty] at hb; cases hb
      inj := fun b₁ b₂ L₁ L₂ hb => absurd (Hp.get_empty b₁) hb
      lt := fun b L hb => by cases hb
      low := fun b hb => absurd (Hp.get_empty b) hb }
  refine (h.2 ⟨fun _ => none, fun _ _ _ => False⟩ w #[] .nil hr).mono fun e w' hq => ?_
  obtain ⟨v', ι', h', rfl, hv, hf⟩ := hq
  cases hv
  exact ⟨rfl, hf.grown fun b L hb => by cases hb⟩
end Go.Fg
/- The ideal machine: what is read of the arguments is held by contents. -/

namespace Go.Fg
open Go.WideShapes

/-- All blocks of a world, whatever one may say of what is in them. -/
def uni (w : World) : Emb := ⟨fun _ => none, fun x r sh => ∃ S : IB → Nat → Nat → Prop, (∀ x r sh, S x r sh → BI ⟨fun _ => none, S⟩ x r sh w) ∧ S x r sh⟩
theorem uni_pro {w : World} {x : IB} {r sh : Nat} (h : (uni w).im x r sh) : BI (uni w) x r sh w := by
  obtain ⟨S, hS, hx⟩ := h
  exact (hS x r sh hx).mono (ι := ⟨fun _ => none, S⟩) (ι' := uni w) ⟨fun _ _ e => (by cases e), fun x r sh h => ⟨S, hS, h⟩⟩ rfl
theorem uni_in {w : World} {x : IB} {r sh : Nat} (h : BI (uni w) x r sh w) : (uni w).im x r sh := by
  have up : (uni w).le ⟨fun _ => none, fun x' r' sh' => (uni w).im x' r' sh' ∨ (x' = x ∧ r' = r ∧ sh' = sh)⟩ := ⟨fun _ _ e => (by cases e), fun _ _ _ h => .inl h⟩
  refine ⟨fun x' r' sh' => (uni w).im x' r' sh' ∨ (x' = x ∧ r' = r ∧ sh' = sh), fun x' r' sh' h' => ?_, .inr ⟨rfl, rfl, rfl⟩⟩
  rcases h' with h' | ⟨rfl, rfl, rfl⟩
  · exact (uni_pro h').mono up rfl
  · exact h.mono up rfl
theorem uni_hr (w : World) : HR (uni w) Hp.empty w where
  pro x r sh h := uni_pro h
  apart b x L y r sh hb := by rw [Hp.get_empty] at hb; cases hb
  blk b x L hb := by rw [Hp.get_empty] at hb; cases hb
  inj b₁ b₂ L₁ L₂ hb := absurd (Hp.get_empty b₁) hb
  lt b L hb := by cases hb
  low b hb := absurd (Hp.get_empty b) hb

/-- What is read at a type is what 'c' makes of one of 'ok'. -/
def Reads (P : Program) (t : TypeId) {α : Type} (c : α → List IV) (ok : α → Prop) : Prop :=
  ∀ (H : Type) (enc : TypeId × Value → H) (w : World) (fuel : Nat) (cs : List Value) (x : DataW H × List MemPlace), DataW.trod enc P w 0 (fun _ => true) true fuel t cs = some x → ∃ a, ok a ∧ VRs (uni w) (c a) cs
def ReadsFs (P : Program) (N off : Nat) (fs : List Field) {α : Type} (c : α → List IV) (ok : α → Prop) : Prop :=
  ∀ (H : Type) (enc : TypeId × Value → H) (w : World) (n : Nat) (cs : List Value), cs.length = N → (∀ f ∈ fs, ∃ x, DataW.trod enc P w 0 (fun _ => true) true n f.type ((cs.drop f.offset).take (P.cellsOf f.type)) = some x) → ∃ a, ok a ∧ VRs (uni w) (c a) (cs.drop off)

section
variable {P : Program} {t e : TypeId} {α β : Type} {c : α → List IV} {ok : α → Prop}
theorem Reads.map {c' : β → List IV} {ok' : β → Prop} (h : Reads P t c ok) (g : α → β) (hc : ∀ a, c' (g a) = c a) (ho : ∀ a, ok a → ok' (g a)) : Reads P t c' ok' := by
  intro H enc w fuel cs x e
  obtain ⟨a, h1, h2⟩ := h H enc w fuel cs x e
  exact ⟨g a, ho a h1, by rw [hc]; exact h2⟩
theorem Reads.int {k : IntKind} (ht : P.underlying t = some (.int k)) : Reads P t (fun n : Int => [.i k n]) (fun n => k.min ≤ n ∧ n ≤ k.max) := by
  intro H enc w fuel cs x e
  obtain ⟨n, rfl, _, hw⟩ := DataW.trod_int ht e
  simp only [Lit.wf, Bool.and_eq_true, decide_eq_true_eq] at hw
  exact ⟨n, hw, .cons _ _ _ _ (.i k n) .nil⟩
theorem Reads.bool (ht : P.underlying t = some .bool) : Reads P t (fun b : Bool => [.b b]) (fun _ => True) := by
  intro H enc w fuel cs x e
  obtain ⟨b, rfl, _⟩ := DataW.trod_bool ht e
  exact ⟨b, trivial, .cons _ _ _ _ (.b b) .nil⟩
theorem Reads.string (ht : P.underlying t = some .string) : Reads P t (fun l : List Nat => [.s l]) (fun l => (∀ b ∈ l, b < 256) ∧ l.length ≤ maxLen) := by
  intro H enc w fuel cs x e
  obtain ⟨s, rfl, _, hs⟩ := DataW.trod_string ht e
  refine ⟨s.data.toList.map UInt8.toNat, ⟨fun b hb => ?_, ?_⟩, .cons _ _ _ _ (.s _ s rfl) .nil⟩
  · obtain ⟨u, _, rfl⟩ := List.mem_map.1 hb
    exact u.toNat_lt
  · rw [List.length_map, Array.length_toList]; exact hs
theorem ReadsFs.nil {N : Nat} : ReadsFs P N N [] (fun _ : Unit => []) (fun _ => True) := by
  intro H enc w n cs hN h
  refine ⟨(), trivial, ?_⟩
  rw [List.drop_eq_nil_of_le (by omega)]
  exact .nil
theorem ReadsFs.cons {N off : Nat} {f : Field} {fs : List Field} {c' : β → List IV} {ok' : β → Prop} (ho : f.offset = off) {m : Nat} (hm : P.cellsOf f.type = m) (h : Reads P f.type c ok) (h' : ReadsFs P N (off + m) fs c' ok') :
    ReadsFs P N off (f :: fs) (fun a : α × β => c a.1 ++ c' a.2) (fun a => ok a.1 ∧ ok' a.2) := by
  intro H enc w n cs hN hx
  obtain ⟨x, hx1⟩ := hx f (by simp)
  obtain ⟨a, h1, h2⟩ := h H enc w n _ x hx1
  obtain ⟨b, h3, h4⟩ := h' H enc w n cs hN fun g hg => hx g (by simp [hg])
  refine ⟨(a, b), ⟨h1, h3⟩, ?_⟩
  have := h2.append h4
  rwa [ho, hm, ← List.drop_drop, List.take_append_drop] at this
theorem Reads.struct {fs : Array Field} (ht : P.underlying t = some (.struct fs)) {N : Nat} (hN : P.cellsOf t = N) (h : ReadsFs P N 0 fs.toList c ok) : Reads P t c ok := by
  intro H enc w fuel cs x e
  obtain ⟨xs, n, _, _, hl, hs, hf⟩ := DataW.trod_struct ht e
  obtain ⟨a, h1, h2⟩ := h H enc w n cs (hl.trans hN) fun f hf' => by
    obtain ⟨i, hi, rfl⟩ := List.mem_iff_getElem.1 hf'
    have hi' : i < fs.size := by simpa using hi
    have := hf i fs[i] (by simp [hi'])
    refine ⟨xs[i]'(by omega), ?_⟩
    rw [List.getElem?_eq_getElem (by omega)] at this
    simpa using this
  exact ⟨a, h1, by simpa using h2⟩

/-- Elements, one after the other. -/
theorem elems_of {w : World} {ι : Emb} {z : Nat} {ok : α → Prop} {c : α → List IV} : ∀ (len : Nat) (f : Nat → List Value) (_ : ∀ i, i < len → ∃ a, ok a ∧ VRs ι (c a) (f i)), ∃ l : List α, l.length = len ∧ (∀ a ∈ l, ok a) ∧ ∀ (i : Nat) (a : α), l[i]? = some a → VRs ι (c a) (f i)
  | 0, _, _ => ⟨[], rfl, by simp, by simp⟩
  | n + 1, f, h => by
    obtain ⟨l, h1, h2, h3⟩ := elems_of (w := w) (z := z) n (fun i => f (i + 1)) fun i hi => h (i + 1) (by omega)
    obtain ⟨a, h4, h5⟩ := h 0 (by omega)
    refine ⟨a :: l, by simp [h1], by simpa using ⟨h4, h2⟩, fun i b hb => ?_⟩
    cases i with
    | zero => simp at hb; subst hb; exact h5
    | succ i => exact h3 i b (by simpa using hb)
theorem flat_get {z : Nat} (hz : 0 < z) : ∀ (l : List (List IV)) (_ : ∀ x ∈ l, x.length = z) (i : Nat) (v : IV), l.flatten[i]? = some v → ∃ x, l[i / z]? = some x ∧ x[i % z]? = some v
  | [], _, i, v, h => by simp at h
  | x :: l, hl, i, v, h => by
    have hx := hl x (by simp)
    rw [List.flatten_cons] at h
    rcases Nat.lt_or_ge i z with hi | hi
    · rw [List.getElem?_append_left (by omega)] at h
      exact ⟨x, by rw [Nat.div_eq_of_lt hi]; rfl, by rw [Nat.mod_eq_of_lt hi]; exact h⟩
    · rw [List.getElem?_append_right (by omega), hx] at h
      obtain ⟨y, h1, h2⟩ := flat_get hz l (fun y hy => hl y (by simp [hy])) (i - z) v h
      obtain ⟨k, rfl⟩ : ∃ k, i = k + z := ⟨i - z, by omega⟩
      rw [Nat.add_sub_cancel] at h1 h2
      refine ⟨y, ?_, by rw [Nat.add_mod_right]; exact h2⟩
      rw [Nat.add_div_right _ hz]
      exact h1
theorem Reads.slice (ht : P.underlying t = some (.slice e)) {z : Nat} (hz : P.cellsOf e = z) (hpos : 0 < z) (h : Reads P e c ok) : Reads P t (fun l : List α => [.sli (l.map c)]) (fun l => (∀ a ∈ l, ok a) ∧ l.length ≤ maxLen) := by
  intro H enc w fuel cs x ee
  rcases DataW.trod_slice ht ee with ⟨rfl, _⟩ | ⟨a, len, cap, elems, rest, n, _, rfl, _, _, h1, h2, h3, h4, _, _⟩
  · exact ⟨[], by simp, .cons _ _ _ _ .slin .nil⟩
  · have hcs : ∀ i, i < len → ∃ cs', w.cells? 0 (a.add (i * z)) z = some cs' ∧ ∃ y, DataW.trod enc P w 0 (fun _ => true) true n e cs' = some y := by
      intro i hi
      have := h4 i hi
      rw [hz, List.getElem?_eq_getElem (by omega)] at this
      obtain ⟨cs', h5, h6⟩ := Option.bind_eq_some_iff.1 this
      exact ⟨cs', h5, _, h6⟩
    obtain ⟨l, hl, hok, hv⟩ := elems_of (w := w) (ι := uni w) (z := z) (ok := ok) (c := c) len (fun i => (w.cells? 0 (a.add (i * z)) z).getD []) fun i hi => by
      obtain ⟨cs', h5, y, h6⟩ := hcs i hi
      obtain ⟨b, h7, h8⟩ := h H enc w n cs' y h6
      exact ⟨b, h7, by rw [h5]; exact h8⟩
    refine ⟨l, ⟨hok, by omega⟩, .cons _ _ _ _ ?_ .nil⟩
    cases len with
    | zero =>
      obtain rfl := List.length_eq_zero_iff.1 hl
      exact .sli0 a cap
    | succ len =>
      -- the block
      have cell : ∀ i j, i < len + 1 → j < z → ∃ v, w.cell? ((a.add (i * z)).add j) = some v ∧ ((w.cells? 0 (a.add (i * z)) z).getD [])[j]? = some v := by
        intro i j hi hj
        obtain ⟨cs', h5, _⟩ := hcs i hi
        have h5' := h5
        unfold World.cells? at h5'
        rw [if_pos (Nat.zero_le _)] at h5'
        have hlen := mapM_some_length h5'
        rw [List.length_range] at hlen
        have := mapM_some_get h5' j j (by simp [hj])
        rw [List.getElem?_eq_getElem (by omega)] at this
        exact ⟨_, this, by rw [h5]; simp [hlen, hj]⟩
      obtain ⟨v0, hv0, _⟩ := cell 0 0 (by omega) hpos
      have ha0 : (a.add (0 * z)).add 0 = a := by simp [Addr.add]
      rw [ha0] at hv0
      unfold World.cell? at hv0
      split at hv0
      case h_2 => cases hv0
      case h_1 cc et fr hb =>
      split at hv0
      · cases hv0
      rename_i hspot
      have hsp : a.spot = none := by simpa using hspot
      have hadd : ∀ i j, ((a.add (i * z)).add j) = ⟨a.block, a.off + (i * z + j), none⟩ := by
        intro i j
        obtain ⟨ab, ao, as⟩ := a
        simp only at hsp
        subst hsp
        unfold Addr.add
        split <;> split <;> simp_all [Nat.add_assoc]
      have hget : ∀ i j, i < len + 1 → j < z → ∃ v, cc[a.off + (i * z + j)]? = some v ∧ ((w.cells? 0 (a.add (i * z)) z).getD [])[j]? = some v := by
        intro i j hi hj
        obtain ⟨v, e1, e2⟩ := cell i j hi hj
        rw [hadd] at e1
        unfold World.cell? at e1
        rw [hb] at e1
        exact ⟨v, by simpa using e1, e2⟩
      have hlen : ∀ x ∈ l.map c, x.length = z := by
        intro x hx
        obtain ⟨b, hb', rfl⟩ := List.mem_map.1 hx
        obtain ⟨i, hi, rfl⟩ := List.mem_iff_getElem.1 hb'
        have h7 := hv i l[i] (by simp [hi])
        obtain ⟨cs', h5, _⟩ := hcs i (by omega)
        have h8 := h7.length
        rw [h5] at h8
        have h5' := h5
        unfold World.cells? at h5'
        rw [if_pos (Nat.zero_le _)] at h5'
        have hlen := mapM_some_length h5'
        rw [List.length_range] at hlen
        simp only [Option.getD_some] at h8
        omega
      have hfl : (l.map c).flatten.length = (len + 1) * z := by
        rw [List.length_flatten, List.map_congr_left (g := fun _ => z) (fun x hx => hlen x hx), List.map_map]
        show (l.map (fun _ => z)).sum = _
        rw [List.map_const', List.sum_replicate_nat, hl]
      have him : (uni w).im (.c (l.map c).flatten) a.block a.off := by
        refine uni_in ⟨cc, et, fr, hb, ?_, fun i v hi => ?_⟩
        · obtain ⟨v, e1, _⟩ := hget len (z - 1) (by omega) (by omega)
          obtain ⟨e3, _⟩ := Array.getElem?_eq_some_iff.1 e1
          rw [hfl, Nat.add_mul]
          omega
        · obtain ⟨x, e1, e2⟩ := flat_get hpos _ hlen i v hi
          rw [List.getElem?_map] at e1
          obtain ⟨b, e3, rfl⟩ := Option.map_eq_some_iff.1 e1
          obtain ⟨v', e4, e5⟩ := (hv _ b e3).get e2
          have hi1 : i / z < len + 1 := by
            obtain ⟨hh, _⟩ := List.getElem?_eq_some_iff.1 e3
            omega
          obtain ⟨v'', e6, e7⟩ := hget (i / z) (i % z) hi1 (Nat.mod_lt _ hpos)
          rw [e4] at e7
          cases e7
          refine ⟨v', ?_, e5⟩
          rw [← e6, Nat.div_add_mod' i z]
      have : Value.slice (some a) (len + 1) cap = .slice (some ⟨a.block, a.off + 0, none⟩) (l.map c).length cap := by
        obtain ⟨ab, ao, as⟩ := a
        simp only at hsp
        subst hsp
        simp [hl]
      rw [this]
      exact .sli _ _ _ _ 0 z _ him (by simp) hlen (by simp; omega)

/-- An argument of several cells. -/
theorem Reads.agg {fs : Array Field} (h : Reads P t c ok) (ht : P.underlying t = some (.struct fs)) {r : Reach} {b0 : Nat} {w : World} {v : Value} {H : Type} {enc : TypeId × Value → H} {d : DataW H} {ps : List MemPlace} (hval : Value.okWide P w r b0 t v) (hd : DataW.Trod enc P w 0 (fun _ => true) true t v d ps) :
    ∃ a, ok a ∧ VR (uni w) (.agg (c a)) v := by
  simp only [Value.okWide, ht] at hval
  obtain ⟨cs, rfl, _, _⟩ := hval
  obtain ⟨fuel, hf⟩ := hd
  obtain ⟨a, h1, h2⟩ := h H enc w fuel _ _ hf
  exact ⟨a, h1, .agg _ _ h2⟩
/-- An argument of one cell. -/
theorem Reads.one {x : α → IV} (h : Reads P t (fun a => [x a]) ok) {w : World} {v : Value} (hv : v.cells = #[v]) {H : Type} {enc : TypeId × Value → H} {d : DataW H} {ps : List MemPlace} (hd : DataW.Trod enc P w 0 (fun _ => true) true t v d ps) :
    ∃ a, ok a ∧ VR (uni w) (x a) v := by
  obtain ⟨fuel, hf⟩ := hd
  rw [hv] at hf
  obtain ⟨a, h1, h2⟩ := h H enc w fuel _ _ hf
  cases h2 with
  | cons _ _ _ _ h3 _ => exact ⟨a, h1, h3⟩
end
end Go.Fg
/- What the arguments read as stays when only new blocks are laid. -/

namespace Go.Fg

def slicesFull (P : Program) : Bool := (List.range P.types.size).all fun t => match P.underlying t with
  | some (.slice e) => Nat.ble 1 (P.cellsOf e)
  | _ => true
theorem slices_full {P : Program} (h : slicesFull P = true) {t e : TypeId} (ht : t < P.types.size) (hu : P.underlying t = some (.slice e)) : 0 < P.cellsOf e := by
  have := List.all_eq_true.1 h t (List.mem_range.2 ht)
  rw [hu] at this
  exact Nat.le_of_ble_eq_true this
theorem same_grown {W W' : World} (hg : RowKit.Grown W W') {p : MemPlace} (hp : p.block < W.heap.size) : W.sameAt W' p := by
  obtain ⟨⟨_, _, h⟩, _, _⟩ := hg
  cases p with
  | cell b off =>
    have := h b hp
    show W'.cell? _ = W.cell? _
    unfold World.cell?
    split at this
    · rename_i h1 h2
      rw [h1, h2]
      simp only
      rw [this.2.2.2 off not_false]
    · rename_i h1 h2
      rw [h1, h2]
    · rw [this]
  | map b =>
    have := h b hp
    show W'.heap[b]? = W.heap[b]?
    split at this
    · rename_i h1 h2
      rw [h1, h2]
      obtain ⟨rfl, rfl, _, h3⟩ := this
      rw [Array.ext_getElem? fun i => h3 i not_false]
    · rename_i h1 h2
      rw [h1, h2]
      obtain h | ⟨rfl, rfl⟩ := this
      · exact h.elim
      · rfl
    · exact this

/-- The arguments' reading stays. -/
theorem trodAll_stays {P : Program} (hl : laidOutB P = true) (hm : mapsRowed P = true) (hf : slicesFull P = true) {H : Type} {enc : TypeId × Value → H} {W W' : World} (hg : RowKit.Grown W W') {sp : Nat → Bool} :
    ∀ {ts : List TypeId} {vs : List Value} {ds : List (DataW H)} {ps : List MemPlace}, (∀ t ∈ ts, t < P.types.size) → DataW.TrodAll enc P W 0 (fun _ => true) true ts vs ds ps → (∀ p ∈ ps, sp p.block = true) → DataW.TrodAll enc P W' 0 sp true ts vs ds ps
  | [], [], [], _, _, h, _ => h
  | t :: ts, v :: vs, d :: ds, _, ht, h, hs => by
    obtain ⟨p, q, h1, h2, rfl⟩ := h
    obtain ⟨n, h3⟩ := h1
    refine ⟨p, q, ⟨n, ?_⟩, trodAll_stays hl hm hf hg (fun t h => ht t (by simp [h])) h2 (fun x hx => hs x (by simp [hx])), rfl⟩
    exact DataW.trod_stays (kids_rows hl hm) (fun h1 h2 => slices_full hf h1 h2) (fun h => by cases h) (ht t (by simp)) h3 (fun x hx => same_grown hg (DataW.trod_lt n t _ _ h3 x hx)) (fun x hx => hs x (by simp [hx]))
  | [], [], _ :: _, _, _, h, _ => h.elim
  | [], _ :: _, [], _, _, h, _ => h.elim
  | [], _ :: _, _ :: _, _, _, h, _ => h.elim
  | _ :: _, [], [], _, _, h, _ => h.elim
  | _ :: _, [], _ :: _, _, _, h, _ => h.elim
  | _ :: _, _ :: _, [], _, _, h, _ => h.elim
/-- A function that tells 'true' at arguments that are held by contents returns true. -/
theorem law_true {P : Program} {k : Nat} {args : List IV} (h : Tells P k args (.b true)) {w : World} {args' : Array Value} (ha : VRs (uni w) args args'.toList) : Calls P k args' w fun e w' => e = .returned (.bool true) ∧ RowKit.Grown w w' := by
  refine (h.2 (uni w) w args' ha (uni_hr w)).mono fun e w' hq => ?_
  obtain ⟨v', ι', h', rfl, hv, hf⟩ := hq
  cases hv
  exact ⟨rfl, hf.grown fun b L hb => by cases hb⟩
end Go.Fg
