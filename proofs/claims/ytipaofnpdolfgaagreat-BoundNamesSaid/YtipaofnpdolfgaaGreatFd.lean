/- Code with names for the places where ways meet: definitions. -/
import Derived.Test.YtipaofnpdolfgaaGreatFa
import Derived.Test.YtipaofnpdolfgaaGreatFc
import Derived.RowKit3
set_option linter.unusedSectionVars false
set_option linter.unusedSimpArgs false
set_option linter.unusedVariables false
namespace Go.Fg

/-- Code with labels: where ways meet, and at loops; which temporaries are looked at from there on. -/
inductive LC where
  | skip
  | ops (l : List IOper)
  | draw (l : List IOper)
  | seq (a b : LC)
  | join (j : Nat) (L : List Pos) (a b : LC)
  | cond (c : Od) (a b : LC)
  | block (id : Nat) (b : LC)
  | loop (j : Nat) (L : List Pos) (b : LC)
  | exit (id : Nat)
  | ret
  | bad

def LC.erase : LC → ICode
  | .skip => .skip
  | .ops l => .ops l
  | .draw l => .draw l
  | .seq a b => .seq a.erase b.erase
  | .join _ _ a b => .seq a.erase b.erase
  | .cond c a b => .cond c a.erase b.erase
  | .block id b => .block id b.erase
  | .loop _ _ b => .loop b.erase
  | .exit id => .exit id
  | .ret => .ret
  | .bad => .bad

/-- What is still to be done behind a piece of code. -/
inductive LI where
  | code (b : LC) (lab : Option (Nat × List Pos))
  | blk (id : Nat)
  | loop (j : Nat) (L : List Pos) (b : LC)

/-! Which temporaries are looked at. -/
noncomputable def memP (p : Pos) : List Pos → Bool := @List.rec Pos (fun _ => Bool) false (fun q _ r => cond (Pos.eq p q) true r)
noncomputable def addP (p : Pos) (l : List Pos) : List Pos := cond (memP p l) l (p :: l)
noncomputable def unionP (x y : List Pos) : List Pos := @List.rec Pos (fun _ => List Pos) y (fun p _ r => addP p r) x
noncomputable def delP (p : Pos) (l : List Pos) : List Pos := @List.rec Pos (fun _ => List Pos) [] (fun q _ r => cond (Pos.eq p q) r (q :: r)) l
noncomputable def subP (x y : List Pos) : Bool := @List.rec Pos (fun _ => Bool) true (fun p _ r => cond (memP p y) r false) x
def odP : List Od → List Pos
  | [] => []
  | .t n :: r => n :: odP r
  | .c _ :: r => odP r
def guardP : Option (Pos × Bool) → List Pos
  | some (t, _) => [t]
  | none => []
def Io.odsX : Io → List Od
  | .rd _ xs | .al _ xs | .ef _ xs => xs
  | .call f xs => f :: xs
  | .bad => []
noncomputable def lvOp (o : IOper) (N : List Pos) : List Pos := unionP (guardP o.guard) (unionP (odP o.op.odsX) (match o.dst with | some d => delP d N | none => N))
noncomputable def lvOps : List IOper → List Pos → List Pos
  | [], N => N
  | o :: r, N => lvOp o (lvOps r N)
def resP : List IRes → List Pos
  | [] => []
  | .t n :: r => n :: resP r
  | .cell a _ :: r => a :: resP r
  | .cell1 a :: r => a :: resP r
/-- What is looked at from a piece of code on: N behind it, X behind its exits, F at the function's end. -/
noncomputable def lv (F : List Pos) : LC → List Pos → (Nat → List Pos) → List Pos
  | .skip, N, _ => N
  | .ops l, N, _ => lvOps l N
  | .draw l, N, _ => lvOps l N
  | .seq a b, N, X => lv F a (lv F b N X) X
  | .join _ L a _, _, X => lv F a L X
  | .cond c a b, N, X => unionP (odP [c]) (unionP (lv F a N X) (lv F b N X))
  | .block id b, N, X => lv F b N (fun k => cond (Nat.beq k id) N (X k))
  | .loop _ L _, _, _ => L
  | .exit id, _, X => X id
  | .ret, _, _ => F
  | .bad, _, _ => []
/-- Are the labels' lists long enough? -/
noncomputable def lvOk (F : List Pos) : LC → List Pos → (Nat → List Pos) → Bool
  | .seq a b, N, X => cond (lvOk F b N X) (lvOk F a (lv F b N X) X) false
  | .join _ L a b, N, X => cond (subP (lv F b N X) L) (cond (lvOk F b N X) (lvOk F a L X) false) false
  | .cond _ a b, N, X => cond (lvOk F a N X) (lvOk F b N X) false
  | .block id b, N, X => lvOk F b N (fun k => cond (Nat.beq k id) N (X k))
  | .loop _ L b, _, X => cond (subP (lv F b L X) L) (lvOk F b L X) false
  | _, _, _ => true

/-- The places with labels. -/
structure Pt where
  j : Nat
  L : List Pos
  c : LC
  S : List LI
def pts : LC → List LI → List Pt
  | .seq a b, S => pts a (.code b none :: S) ++ pts b S
  | .join j L a b, S => ⟨j, L, b, S⟩ :: (pts a (.code b (some (j, L)) :: S) ++ pts b S)
  | .cond _ a b, S => pts a S ++ pts b S
  | .block id b, S => pts b (.blk id :: S)
  | .loop j L b, S => ⟨j, L, .loop j L b, S⟩ :: pts b (.loop j L b :: S)
  | _, _ => []
noncomputable def findPt (j : Nat) (l : List Pt) : Option Pt := @List.rec Pt (fun _ => Option Pt) none (fun p _ r => cond (Nat.beq p.j j) (some p) r) l
noncomputable def memN (n : Nat) (l : List Nat) : Bool := @List.rec Nat (fun _ => Bool) false (fun m _ r => cond (Nat.beq n m) true r) l
noncomputable def nodupN (l : List Nat) : Bool := @List.rec Nat (fun _ => Bool) true (fun m t r => cond (memN m t) false r) l

/-! Labelling. -/
/-- Is there nothing but operations? -/
def plain : ICode → Bool
  | .skip | .ops _ | .draw _ | .exit _ | .ret | .bad => true
  | .seq a b => plain a && plain b
  | _ => false
/-- Labels from n on. -/
noncomputable def label (F : List Pos) : ICode → Nat → List Pos → (Nat → List Pos) → LC × Nat
  | .skip, n, _, _ => (.skip, n)
  | .ops l, n, _, _ => (.ops l, n)
  | .draw l, n, _, _ => (.draw l, n)
  | .seq a b, n, N, X =>
    let (b', n) := label F b n N X
    let L := lv F b' N X
    if plain a then
      let (a', n) := label F a n L X
      (.seq a' b', n)
    else
      let (a', n') := label F a (n + 1) L X
      (.join n L a' b', n')
  | .cond c a b, n, N, X =>
    let (a', n) := label F a n N X
    let (b', n) := label F b n N X
    (.cond c a' b', n)
  | .block id b, n, N, X =>
    let (b', n) := label F b n N (fun k => cond (Nat.beq k id) N (X k))
    (.block id b', n)
  | .loop b, n, _, X =>
    let L := lv F (label F b (n + 1) [] X).1 [] X
    let (b', n') := label F b (n + 1) L X
    (.loop n L b', n')
  | .exit id, n, _, _ => (.exit id, n)
  | .ret, n, _, _ => (.ret, n)
  | .bad, n, _, _ => (.bad, n)

structure LFn where
  res : List IRes
  code : LC
noncomputable def labFn (f : IFn) : LFn := ⟨f.res, (label (resP f.res) f.body 1 (resP f.res) (fun _ => [])).1⟩
noncomputable def okFn (f : LFn) : Bool := cond (lvOk (resP f.res) f.code (resP f.res) (fun _ => [])) (nodupN ((pts f.code []).map (·.j))) false
end Go.Fg
/- Code with names for the places where ways meet: what is not looked at does not matter. -/
namespace Go.Fg

/-! Lists of temporaries. -/
theorem Pos.eq_self (p : Pos) : Pos.eq p p = true := by
  induction p with
  | h => rfl
  | o p ih => exact ih
  | i p ih => exact ih
theorem Pos.eq_iff {p q : Pos} : Pos.eq p q = true ↔ p = q := ⟨Pos.eq_true, fun h => by rw [h]; exact Pos.eq_self q⟩
theorem memP_nil (p : Pos) : memP p [] = false := rfl
theorem memP_cons (p q : Pos) (l : List Pos) : memP p (q :: l) = cond (Pos.eq p q) true (memP p l) := rfl
theorem memP_iff {p : Pos} : ∀ {l : List Pos}, memP p l = true ↔ p ∈ l
  | [] => by simp [memP_nil]
  | q :: l => by
    rw [memP_cons, List.mem_cons]
    cases c : Pos.eq p q with
    | true => simp [Pos.eq_true c]
    | false =>
      have : p ≠ q := fun e => by rw [e, Pos.eq_self] at c; cases c
      simp [this, memP_iff]
theorem mem_addP {p q : Pos} {l : List Pos} : q ∈ addP p l ↔ q = p ∨ q ∈ l := by
  unfold addP
  cases c : memP p l with
  | true => exact ⟨fun h => .inr h, fun h => h.elim (fun e => by rw [e]; exact memP_iff.1 c) id⟩
  | false => simp
theorem mem_unionP {q : Pos} : ∀ {x y : List Pos}, q ∈ unionP x y ↔ q ∈ x ∨ q ∈ y
  | [], y => by show q ∈ y ↔ _; simp
  | p :: x, y => by
    show q ∈ addP p (unionP x y) ↔ _
    rw [mem_addP, mem_unionP, List.mem_cons, or_assoc]
theorem mem_delP {p q : Pos} : ∀ {l : List Pos}, q ∈ delP p l ↔ q ∈ l ∧ q ≠ p
  | [] => by show q ∈ ([] : List Pos) ↔ _; simp
  | r :: l => by
    show q ∈ cond (Pos.eq p r) (delP p l) (r :: delP p l) ↔ _
    cases c : Pos.eq p r with
    | true =>
      have := Pos.eq_true c
      subst this
      show q ∈ delP p l ↔ _
      rw [mem_delP, List.mem_cons]
      constructor
      · rintro ⟨a, b⟩; exact ⟨.inr a, b⟩
      · rintro ⟨a | a, b⟩
        · exact absurd a b
        · exact ⟨a, b⟩
    | false =>
      have : r ≠ p := fun e => by rw [e, Pos.eq_self] at c; cases c
      show q ∈ r :: delP p l ↔ _
      simp only [List.mem_cons, mem_delP]
      constructor
      · rintro (a | ⟨a, b⟩)
        · exact ⟨.inl a, by rw [a]; exact this⟩
        · exact ⟨.inr a, b⟩
      · rintro ⟨a | a, b⟩
        · exact .inl a
        · exact .inr ⟨a, b⟩
theorem subP_mem : ∀ {x y : List Pos}, subP x y = true → ∀ q ∈ x, q ∈ y
  | [], _, _, q, hq => by cases hq
  | p :: x, y, h, q, hq => by
    have h : cond (memP p y) (subP x y) false = true := h
    obtain ⟨h1, h2⟩ := cond_true h
    rcases List.mem_cons.1 hq with rfl | hq
    · exact memP_iff.1 h1
    · exact subP_mem h2 q hq

/-! Frames that agree. -/
def Ag (L : List Pos) (τ τ' : Fm) : Prop := ∀ p ∈ L, Fm.at τ p = Fm.at τ' p
theorem Ag.sub {L M : List Pos} {τ τ' : Fm} (h : Ag L τ τ') (s : ∀ p ∈ M, p ∈ L) : Ag M τ τ' := fun p hp => h p (s p hp)
theorem Ag.od {L : List Pos} {τ τ' : Fm} (h : Ag L τ τ') {x : Od} (s : ∀ p ∈ odP [x], p ∈ L) : x.ev τ = x.ev τ' := by
  cases x with
  | t n => exact h n (s n (by simp [odP]))
  | c v => rfl
theorem Ag.ods {L : List Pos} {τ τ' : Fm} (h : Ag L τ τ') : ∀ {xs : List Od}, (∀ p ∈ odP xs, p ∈ L) → evs τ xs = evs τ' xs
  | [], _ => rfl
  | .t n :: r, s => by
    show Fm.at τ n :: evs τ r = Fm.at τ' n :: evs τ' r
    rw [h n (s n (by simp [odP])), Ag.ods h (fun p hp => s p (by simp [odP, hp]))]
  | .c v :: r, s => by
    show v :: evs τ r = v :: evs τ' r
    rw [Ag.ods (xs := r) h s]
theorem Ag.put {L : List Pos} {τ τ' : Fm} {d : Option Pos} (h : Ag (match d with | some d => delP d L | none => L) τ τ') (v : IV) : Ag L (putd τ d v) (putd τ' d v) := by
  cases d with
  | none => exact h
  | some d =>
    intro p hp
    by_cases e : p = d
    · subst e; rw [Fm.at_putd_eq, Fm.at_putd_eq]
    · rw [Fm.at_putd_ne _ _ e, Fm.at_putd_ne _ _ e]; exact h p (mem_delP.2 ⟨hp, e⟩)
theorem Ag.wanted {L : List Pos} {τ τ' : Fm} (h : Ag L τ τ') {g : Option (Pos × Bool)} (s : ∀ p ∈ guardP g, p ∈ L) : wantedI g τ = wantedI g τ' := by
  cases g with
  | none => rfl
  | some x =>
    obtain ⟨t, w⟩ := x
    show wantV w (Fm.at τ t) = wantV w (Fm.at τ' t)
    rw [h t (s t (by simp [guardP]))]
theorem Ag.exOp {L : List Pos} {τ τ' : Fm} (h : Ag L τ τ') (cf : CallF) {o : Io} (s : ∀ p ∈ odP o.odsX, p ∈ L) (H : Hp) : Go.Fg.exOp cf o τ H = Go.Fg.exOp cf o τ' H := by
  cases o with
  | rd r xs => show exRd r (evs τ xs) H = exRd r (evs τ' xs) H; rw [h.ods (xs := xs) s]
  | al a xs => show exAl a (evs τ xs) H = exAl a (evs τ' xs) H; rw [h.ods (xs := xs) s]
  | ef e xs => show e.ev (evs τ xs) H = e.ev (evs τ' xs) H; rw [h.ods (xs := xs) s]
  | call f xs =>
    show exCall cf (f.ev τ) (evs τ xs) H = exCall cf (f.ev τ') (evs τ' xs) H
    have s1 : ∀ p ∈ odP [f], p ∈ L := fun p hp => s p (by
      cases f with
      | t n => simp [odP] at hp; simp [Io.odsX, odP, hp]
      | c v => simp [odP] at hp)
    have s2 : ∀ p ∈ odP xs, p ∈ L := fun p hp => s p (by
      cases f with
      | t n => simp [Io.odsX, odP, hp]
      | c v => simp [Io.odsX, odP, hp])
    rw [h.od s1, h.ods s2]
  | bad => rfl
theorem Ag.frzOds {L : List Pos} : ∀ {l : List Od} {τ τ' : Fm} (H : Hp), Ag L τ τ' → (∀ p ∈ odP l, p ∈ L) →
    (Go.Fg.frzOds H τ l = none ∧ Go.Fg.frzOds H τ' l = none) ∨ ∃ τ1 τ1' H1, Go.Fg.frzOds H τ l = some (τ1, H1) ∧ Go.Fg.frzOds H τ' l = some (τ1', H1) ∧ Ag L τ1 τ1'
  | [], τ, τ', H, h, _ => .inr ⟨τ, τ', H, rfl, rfl, h⟩
  | .c _ :: r, τ, τ', H, h, s => Ag.frzOds (l := r) H h s
  | .t n :: r, τ, τ', H, h, s => by
    have e := h n (s n (by simp [odP]))
    unfold Go.Fg.frzOds
    rw [← e]
    cases Nat.ble n.num 1000000 with
    | false => exact .inl ⟨rfl, rfl⟩
    | true =>
      show (_ ∧ (cond true _ none) = none) ∨ _
      cases frz H (Fm.at τ n) with
      | none => exact .inl ⟨rfl, rfl⟩
      | some x =>
        obtain ⟨u, H1⟩ := x
        refine Ag.frzOds (l := r) H1 (Ag.put (d := some n) (fun p hp => h p (mem_delP.1 hp).1) u) (fun p hp => s p (by simp [odP, hp]))
theorem toFz_sub (o : Io) : ∀ p ∈ odP o.toFz, p ∈ odP o.odsX := by
  intro p hp
  cases o with
  | rd r xs => exact hp
  | al a xs => exact hp
  | ef e xs =>
    cases xs with
    | nil => simp [Io.toFz, odP] at hp
    | cons x xs =>
      have hp' : p ∈ odP xs := hp
      cases x
      · exact List.mem_cons_of_mem _ hp'
      · exact hp'
  | call f xs =>
    cases xs with
    | nil => simp [Io.toFz, odP] at hp
    | cons x xs =>
      have hp' : p ∈ odP xs := hp
      cases f <;> cases x
      · exact List.mem_cons_of_mem _ (List.mem_cons_of_mem _ hp')
      · exact List.mem_cons_of_mem _ hp'
      · exact List.mem_cons_of_mem _ hp'
      · exact hp'
  | bad => exact hp
theorem Ag.exOpz {L : List Pos} {τ τ' : Fm} (h : Ag L τ τ') (cf : CallF) {o : IOper} (s : ∀ p ∈ odP o.op.odsX, p ∈ L) (H : Hp) : Go.Fg.exOpz cf o τ H = Go.Fg.exOpz cf o τ' H := by
  unfold Go.Fg.exOpz
  cases o.fz with
  | false => exact h.exOp cf s H
  | true =>
    show exFz cf o.op τ H = exFz cf o.op τ' H
    unfold exFz
    rcases Ag.frzOds H h (fun p hp => s p (toFz_sub _ p hp)) with ⟨e1, e2⟩ | ⟨τ1, τ1', H1, e1, e2, k⟩
    · rw [e1, e2]
    · rw [e1, e2]; exact k.exOp cf s H1

/-- Outcomes that agree. -/
def OA (F N : List Pos) (X : Nat → List Pos) : Out → Out → Prop
  | .nrm τ h, .nrm τ' h' => h = h' ∧ Ag N τ τ'
  | .ret τ h, .ret τ' h' => h = h' ∧ Ag F τ τ'
  | .exit k τ h, .exit k' τ' h' => k = k' ∧ h = h' ∧ Ag (X k) τ τ'
  | .fail, .fail => True
  | _, _ => False
section
variable {F : List Pos} {X : Nat → List Pos} {cf : CallF}
theorem lvOp_ag {o : IOper} {N : List Pos} {τ τ' : Fm} (h : Ag (lvOp o N) τ τ') : wantedI o.guard τ = wantedI o.guard τ' ∧ (∀ H, exOpz cf o τ H = exOpz cf o τ' H) ∧ (∀ H, exOp cf o.op τ H = exOp cf o.op τ' H) ∧ evs τ (match o.op with | .rd _ xs => xs | _ => []) = evs τ' (match o.op with | .rd _ xs => xs | _ => []) ∧ ∀ v, Ag N (putd τ o.dst v) (putd τ' o.dst v) := by
  unfold lvOp at h
  have h1 : ∀ p ∈ guardP o.guard, p ∈ unionP (guardP o.guard) (unionP (odP o.op.odsX) (match o.dst with | some d => delP d N | none => N)) := fun p hp => mem_unionP.2 (.inl hp)
  have h2 : ∀ p ∈ odP o.op.odsX, p ∈ unionP (guardP o.guard) (unionP (odP o.op.odsX) (match o.dst with | some d => delP d N | none => N)) := fun p hp => mem_unionP.2 (.inr (mem_unionP.2 (.inl hp)))
  refine ⟨h.wanted h1, fun H => h.exOpz cf h2 H, fun H => h.exOp cf h2 H, ?_, fun v => Ag.put (h.sub fun p hp => mem_unionP.2 (.inr (mem_unionP.2 (.inr hp)))) v⟩
  cases ho : o.op with
  | rd r xs => rw [ho] at h2 h; exact h.ods h2
  | _ => rfl
theorem exOps_ag : ∀ {l : List IOper} {N : List Pos} {τ τ' : Fm} {H : Hp}, Ag (lvOps l N) τ τ' → OA F N X (exOps cf l τ H) (exOps cf l τ' H)
  | [], N, τ, τ', H, h => ⟨rfl, h⟩
  | o :: r, N, τ, τ', H, h => by
    obtain ⟨h1, h2, _, _, h3⟩ := lvOp_ag (cf := cf) (show Ag (lvOp o (lvOps r N)) τ τ' from h)
    unfold exOps
    rw [← h1]
    cases wantedI o.guard τ with
    | false => exact exOps_ag (l := r) (h3 _)
    | true =>
      show OA F N X (opThen (exOps cf r) τ o.dst (exOpz cf o τ H)) (opThen (exOps cf r) τ' o.dst (exOpz cf o τ' H))
      rw [← h2]
      cases exOpz cf o τ H with
      | none => trivial
      | some x => obtain ⟨v, H'⟩ := x; exact exOps_ag (l := r) (h3 v)
theorem exDraw_ag : ∀ {l : List IOper} {n : Nat} {d : DSt} {N : List Pos} {τ τ' : Fm} {H : Hp}, Ag (lvOps l N) τ τ' → OA F N X (exDraw cf l n d τ H) (exDraw cf l n d τ' H)
  | [], n, d, N, τ, τ', H, h => ⟨rfl, h⟩
  | o :: r, n, d, N, τ, τ', H, h => by
    obtain ⟨h1, _, h2, h4, h3⟩ := lvOp_ag (cf := cf) (show Ag (lvOp o (lvOps r N)) τ τ' from h)
    rw [exDraw_cons, exDraw_cons, ← h1]
    cases wantedI o.guard τ with
    | false => exact exDraw_ag (l := r) (h3 _)
    | true =>
      show OA F N X (drawThen (exDraw cf r (n + 1)) n o d τ H (exOp cf o.op τ H)) (drawThen (exDraw cf r (n + 1)) n o d τ' H (exOp cf o.op τ' H))
      rw [← h2]
      cases exOp cf o.op τ H with
      | none => trivial
      | some x =>
        obtain ⟨v, H'⟩ := x
        have e : drawSt n o.bits o.op τ H v H' d = drawSt n o.bits o.op τ' H v H' d := by
          cases ho : o.op with
          | rd q xs =>
            rw [ho] at h4
            show drawRd n o.bits q (evs τ xs) v d = drawRd n o.bits q (evs τ' xs) v d
            rw [h4]
          | _ => rfl
        show OA F N X (drawThen _ n o d τ H (some (v, H'))) (drawThen _ n o d τ' H (some (v, H')))
        unfold drawThen
        simp only [← e]
        split
        · exact exDraw_ag (l := r) (h3 v)
        · trivial

theorem OA.then {N M : List Pos} {o o' : Out} {k : Fm → Hp → Out} (h : OA F N X o o') (hk : ∀ τ τ' H, Ag N τ τ' → OA F M X (k τ H) (k τ' H)) : OA F M X (thenI k o) (thenI k o') := by
  cases o <;> cases o' <;> first | exact h.elim | skip
  · obtain ⟨rfl, h⟩ := h; exact hk _ _ _ h
  · exact h
  · exact h
  · exact h
theorem OA.sub {N M : List Pos} {o o' : Out} (h : OA F N X o o') (s : ∀ p ∈ M, p ∈ N) : OA F M X o o' := by
  cases o <;> cases o' <;> first | exact h | exact ⟨h.1, h.2.sub s⟩

/-- WHAT IS NOT LOOKED AT DOES NOT MATTER. -/
theorem sem_ag {n : Nat} : ∀ (c : LC) {N : List Pos} {X : Nat → List Pos} {τ τ' : Fm} {H : Hp}, lvOk F c N X = true → Ag (lv F c N X) τ τ' → OA F N X (sem n cf c.erase τ H) (sem n cf c.erase τ' H)
  | .skip, N, X, τ, τ', H, _, h => ⟨rfl, h⟩
  | .ops l, N, X, τ, τ', H, _, h => exOps_ag h
  | .draw l, N, X, τ, τ', H, _, h => exDraw_ag h
  | .exit id, N, X, τ, τ', H, _, h => ⟨rfl, rfl, h⟩
  | .ret, N, X, τ, τ', H, _, h => ⟨rfl, h⟩
  | .bad, N, X, τ, τ', H, _, h => trivial
  | .seq a b, N, X, τ, τ', H, ok, h => by
    obtain ⟨o1, o2⟩ := cond_true (show cond (lvOk F b N X) (lvOk F a (lv F b N X) X) false = true from ok)
    exact OA.then (sem_ag a o2 h) fun τ τ' H k => sem_ag b o1 k
  | .join j L a b, N, X, τ, τ', H, ok, h => by
    obtain ⟨o0, o⟩ := cond_true (show cond (subP (lv F b N X) L) (cond (lvOk F b N X) (lvOk F a L X) false) false = true from ok)
    obtain ⟨o1, o2⟩ := cond_true o
    exact OA.then (sem_ag a o2 h) fun τ τ' H k => sem_ag b o1 (k.sub (subP_mem o0))
  | .cond c a b, N, X, τ, τ', H, ok, h => by
    obtain ⟨o1, o2⟩ := cond_true (show cond (lvOk F a N X) (lvOk F b N X) false = true from ok)
    have h : Ag (unionP (odP [c]) (unionP (lv F a N X) (lv F b N X))) τ τ' := h
    have e := h.od (x := c) fun p hp => mem_unionP.2 (.inl hp)
    show OA F N X (condI (sem n cf a.erase τ H) (sem n cf b.erase τ H) (c.ev τ)) (condI (sem n cf a.erase τ' H) (sem n cf b.erase τ' H) (c.ev τ'))
    rw [← e]
    unfold condI
    split
    · exact sem_ag a o1 (h.sub fun p hp => mem_unionP.2 (.inr (mem_unionP.2 (.inl hp))))
    · exact sem_ag b o2 (h.sub fun p hp => mem_unionP.2 (.inr (mem_unionP.2 (.inr hp))))
    · trivial
  | .block id b, N, X, τ, τ', H, ok, h => by
    have k := sem_ag (n := n) b ok (H := H) h
    show OA F N X (blockI id (sem n cf b.erase τ H)) (blockI id (sem n cf b.erase τ' H))
    generalize sem n cf b.erase τ H = o at k ⊢
    generalize sem n cf b.erase τ' H = o' at k ⊢
    cases o <;> cases o' <;> first | exact k.elim | exact k | skip
    · rename_i i τ1 h1 i' τ2 h2
      obtain ⟨rfl, rfl, k⟩ := k
      show OA F N X (cond (Nat.beq i id) (.nrm τ1 h1) (.exit i τ1 h1)) (cond (Nat.beq i id) (.nrm τ2 h1) (.exit i τ2 h1))
      have k : Ag (cond (Nat.beq i id) N (X i)) τ1 τ2 := k
      cases c : Nat.beq i id with
      | true => rw [c] at k; exact ⟨rfl, k⟩
      | false => rw [c] at k; exact ⟨rfl, rfl, k⟩
  | .loop j L b, N, X, τ, τ', H, ok, h => by
    obtain ⟨o0, o1⟩ := cond_true (show cond (subP (lv F b L X) L) (lvOk F b L X) false = true from ok)
    have key : ∀ m τ τ' H, Ag L τ τ' → OA F N X (loopN (sem n cf b.erase) m τ H) (loopN (sem n cf b.erase) m τ' H) := by
      intro m
      induction m with
      | zero => intro τ τ' H _; trivial
      | succ m ih =>
        intro τ τ' H h
        exact OA.then (sem_ag b o1 (h.sub (subP_mem o0))) ih
    exact key n τ τ' H h

theorem semW_ag {c : LC} {N : List Pos} {X : Nat → List Pos} {τ τ' : Fm} {H : Hp} (ok : lvOk F c N X = true) (h : Ag (lv F c N X) τ τ') : OA F N X (semW cf c.erase τ H) (semW cf c.erase τ' H) := by
  by_cases c1 : semW cf c.erase τ H = .fail
  · by_cases c2 : semW cf c.erase τ' H = .fail
    · rw [c1, c2]; trivial
    · obtain ⟨n, hn⟩ := semW_inv rfl c2
      have k := sem_ag (n := n) (cf := cf) c ok (H := H) h
      rw [hn] at k
      have : sem n cf c.erase τ H ≠ .fail := by
        intro e; rw [e] at k
        generalize semW cf c.erase τ' H = o at k c2
        cases o <;> first | exact k.elim | exact c2 rfl
      rw [semW_of rfl this] at c1
      exact absurd c1 this
  · obtain ⟨n, hn⟩ := semW_inv rfl c1
    have k := sem_ag (n := n) (cf := cf) c ok (H := H) h
    rw [hn] at k
    have : sem n cf c.erase τ' H ≠ .fail := by
      intro e; rw [e] at k
      generalize semW cf c.erase τ H = o at k c1
      cases o <;> first | exact k.elim | exact c1 rfl
    rw [semW_of rfl this]
    exact k
end
end Go.Fg
/- Code with names for the places where ways meet: what each place does, as one expression. -/
namespace Go.Fg

abbrev R := Option (IV × Hp)

noncomputable def leaveX (τ : Fm) (h : Hp) : List IRes → (List IV → R) → R
  | [], k => k []
  | .t n :: r, k => leaveX τ h r (fun vs => k (Fm.at τ n :: vs))
  | .cell a n :: r, k => (evLd n h [Fm.at τ a]).bind fun v => leaveX τ h r (fun vs => k (v :: vs))
  | .cell1 a :: r, k => (evLd1 h [Fm.at τ a]).bind fun v => leaveX τ h r (fun vs => k (v :: vs))
noncomputable def leaveR (rs : List IRes) (τ : Fm) (h : Hp) : R := leaveX τ h rs (fun vs => some (oneOf vs, h))
theorem leaveX_eq (τ : Fm) (h : Hp) : ∀ (rs : List IRes) (k : List IV → R), leaveX τ h rs k = (resultsI τ h rs).bind k
  | [], k => rfl
  | .t n :: r, k => by
    show leaveX τ h r _ = (consO (some (Fm.at τ n)) (resultsI τ h r)).bind k
    rw [leaveX_eq]
    cases resultsI τ h r <;> rfl
  | .cell a n :: r, k => by
    show (evLd n h [Fm.at τ a]).bind _ = (consO (evLd n h [Fm.at τ a]) (resultsI τ h r)).bind k
    cases evLd n h [Fm.at τ a] with
    | none => rfl
    | some v =>
      show leaveX τ h r _ = _
      rw [leaveX_eq]
      cases resultsI τ h r <;> rfl
  | .cell1 a :: r, k => by
    show (evLd1 h [Fm.at τ a]).bind _ = (consO (evLd1 h [Fm.at τ a]) (resultsI τ h r)).bind k
    cases evLd1 h [Fm.at τ a] with
    | none => rfl
    | some v =>
      show leaveX τ h r _ = _
      rw [leaveX_eq]
      cases resultsI τ h r <;> rfl
theorem leaveR_eq (rs : List IRes) (τ : Fm) (h : Hp) : leaveR rs τ h = leaveI rs (.nrm τ h) := by
  unfold leaveR
  rw [leaveX_eq]
  show _ = match resultsI τ h rs with | some vs => some (oneOf vs, h) | none => none
  cases resultsI τ h rs <;> rfl

/-- What comes of an outcome, with so much still to be done. -/
noncomputable def runS (cf : CallF) (rs : List IRes) : List LI → Out → R
  | _, .ret τ h => leaveR rs τ h
  | _, .fail => none
  | [], .nrm τ h => leaveR rs τ h
  | [], .exit _ _ _ => none
  | .code c _ :: S, .nrm τ h => runS cf rs S (semW cf c.erase τ h)
  | .code _ _ :: S, .exit k τ h => runS cf rs S (.exit k τ h)
  | .blk _ :: S, .nrm τ h => runS cf rs S (.nrm τ h)
  | .blk id :: S, .exit k τ h => cond (Nat.beq k id) (runS cf rs S (.nrm τ h)) (runS cf rs S (.exit k τ h))
  | .loop _ _ b :: S, .nrm τ h => runS cf rs S (semW cf (.loop b.erase) τ h)
  | .loop _ _ _ :: S, .exit k τ h => runS cf rs S (.exit k τ h)
noncomputable def E (cf : CallF) (rs : List IRes) (c : LC) (S : List LI) (τ : Fm) (h : Hp) : R := runS cf rs S (semW cf c.erase τ h)

def condR (x y : R) : IV → R
  | .b true => x
  | .b false => y
  | _ => none
noncomputable def frameL : List Pos → List IV → Fm
  | p :: L, v :: vs => PT.put (frameL L vs) p (some v)
  | _, _ => .nil

/-! One operation, and what comes behind it. -/
noncomputable def xOp (cf : CallF) (o : Io) (τ : Fm) (h : Hp) (k : IV → Hp → R) : R :=
  match o with
  | .rd r xs => (r.ev (evs τ xs) h).bind fun v => k v h
  | .al a xs => (a.ev (evs τ xs) h.next).bind fun p => k p.2 (h.new p.1)
  | .ef e xs => (e.ev (evs τ xs) h).bind fun p => k p.1 p.2
  | .call f xs => (exCall cf (f.ev τ) (evs τ xs) h).bind fun p => k p.1 p.2
  | .bad => none
noncomputable def xFz (h : Hp) (τ : Fm) (l : List Od) (k : Fm → Hp → R) : R :=
  @List.rec Od (fun _ => Hp → Fm → R) (fun h τ => k τ h)
    (fun x _ ih h τ => @Od.casesOn (fun _ => R) x (fun n => cond (Nat.ble n.num 1000000) ((frz h (Fm.at τ n)).bind fun p => ih p.2 (putd τ (some n) p.1)) none) (fun _ => ih h τ)) l h τ
noncomputable def xOpz (cf : CallF) (o : IOper) (τ : Fm) (h : Hp) (k : IV → Hp → R) : R :=
  cond o.fz (xFz h τ o.op.toFz (fun τ' h' => xOp cf o.op τ' h' k)) (xOp cf o.op τ h k)
noncomputable def xG (cf : CallF) (g : Bool) (o : Io) (τ : Fm) (h : Hp) (k : IV → Hp → R) : R :=
  match o with
  | .rd r xs => (cond g (r.ev (evs τ xs) h) (some undefd)).bind fun v => k v h
  | .al a xs => (cond g (exAl a (evs τ xs) h) (some (undefd, h))).bind fun p => k p.1 p.2
  | .ef e xs => (cond g (e.ev (evs τ xs) h) (some (undefd, h))).bind fun p => k p.1 p.2
  | .call f xs => (cond g (exCall cf (f.ev τ) (evs τ xs) h) (some (undefd, h))).bind fun p => k p.1 p.2
  | .bad => cond g none (k undefd h)
noncomputable def xGz (cf : CallF) (g : Bool) (o : IOper) (τ : Fm) (h : Hp) (k : IV → Hp → R) : R :=
  cond o.fz ((cond g (exOpz cf o τ h) (some (undefd, h))).bind fun p => k p.1 p.2) (xG cf g o.op τ h k)
noncomputable def xOps (cf : CallF) (k : Fm → Hp → R) (l : List IOper) : Fm → Hp → R :=
  @List.rec IOper (fun _ => Fm → Hp → R) k
    (fun o _ ih τ h => match o.guard with
      | none => xOpz cf o τ h (fun v h' => ih (putd τ o.dst v) h')
      | some (t, w) => xGz cf (wantV w (Fm.at τ t)) o τ h (fun v h' => ih (putd τ o.dst v) h')) l
/-- Is what is seen at a place asked for behind it? -/
def needs (n : Nat) : List IOper → Bool
  | [] => false
  | o :: r => cond (Nat.testBit o.bits n) (needs n r) true
noncomputable def xD (cf : CallF) (nd : Bool) (o : IOper) (n : Nat) (looks : List Seen) (old : List (Nat × Hp)) (τ : Fm) (h : Hp) (k : List Seen → List (Nat × Hp) → IV → Hp → R) : R :=
  match o.op with
  | .rd q xs => (q.ev (evs τ xs) h).bind fun v => cond (isR q) (cond (seenBefore o.bits q (evs τ xs) v old) (k (cond nd (⟨n, q, evs τ xs, v⟩ :: looks) looks) old v h) none) (k looks old v h)
  | .al a xs => (a.ev (evs τ xs) h.next).bind fun p => k looks old p.2 (h.new p.1)
  | .ef e xs => (e.ev (evs τ xs) h).bind fun p => cond (seenAgain o.bits p.2 looks) (k looks (cond nd ((n, h) :: old) old) p.1 p.2) none
  | .call f xs => (exCall cf (f.ev τ) (evs τ xs) h).bind fun p => cond (seenAgain o.bits p.2 looks) (k looks (cond nd ((n, h) :: old) old) p.1 p.2) none
  | .bad => none
def consIf {α : Type} (g : Bool) (x : α) (l : List α) : List α := cond g (x :: l) l
/-- A guarded operation. -/
noncomputable def xE (cf : CallF) (nd g : Bool) (o : IOper) (n : Nat) (looks : List Seen) (old : List (Nat × Hp)) (τ : Fm) (h : Hp) (k : List Seen → List (Nat × Hp) → IV → Hp → R) : R := match o.op with
  | .rd q xs => (cond g ((q.ev (evs τ xs) h).bind fun v => cond (isR q) (cond (seenBefore o.bits q (evs τ xs) v old) (some v) none) (some v)) (some undefd)).bind fun v => k (cond (isR q) (cond nd (consIf g ⟨n, q, evs τ xs, v⟩ looks) looks) looks) old v h
  | .al a xs => (cond g (exAl a (evs τ xs) h) (some (undefd, h))).bind fun p => k looks old p.1 p.2
  | .ef e xs => (cond g ((e.ev (evs τ xs) h).bind fun p => cond (seenAgain o.bits p.2 looks) (some p) none) (some (undefd, h))).bind fun p => k looks (cond nd (consIf g (n, h) old) old) p.1 p.2
  | .call f xs => (cond g ((exCall cf (f.ev τ) (evs τ xs) h).bind fun p => cond (seenAgain o.bits p.2 looks) (some p) none) (some (undefd, h))).bind fun p => k looks (cond nd (consIf g (n, h) old) old) p.1 p.2
  | .bad => cond g none (k looks old undefd h)
noncomputable def xDraw (cf : CallF) (k : Fm → Hp → R) (l : List IOper) : Nat → List Seen → List (Nat × Hp) → Fm → Hp → R :=
  @List.rec IOper (fun _ => Nat → List Seen → List (Nat × Hp) → Fm → Hp → R) (fun _ _ _ τ h => k τ h)
    (fun o r ih n looks old τ h => match o.guard with
      | none => xD cf (needs n r) o n looks old τ h (fun looks old v h' => ih (n + 1) looks old (putd τ o.dst v) h')
      | some (t, w) => xE cf (needs n r) (wantV w (Fm.at τ t)) o n looks old τ h (fun looks old v h' => ih (n + 1) looks old (putd τ o.dst v) h')) l

abbrev JF := Nat → List IV → Hp → R
noncomputable def popX (rs : List IRes) (J : JF) (x : LC → List LI → Fm → Hp → R) : List LI → Fm → Hp → R
  | [], τ, h => leaveR rs τ h
  | .code b none :: S, τ, h => x b S τ h
  | .code _ (some (j, L)) :: _, τ, h => J j (L.map (Fm.at τ)) h
  | .blk _ :: S, τ, h => popX rs J x S τ h
  | .loop j L _ :: _, τ, h => J j (L.map (Fm.at τ)) h
noncomputable def popE (rs : List IRes) (J : JF) (x : LC → List LI → Fm → Hp → R) (id : Nat) : List LI → Fm → Hp → R
  | [], _, _ => none
  | .blk k :: S, τ, h => cond (Nat.beq id k) (popX rs J x S τ h) (popE rs J x id S τ h)
  | .code _ _ :: S, τ, h => popE rs J x id S τ h
  | .loop _ _ _ :: S, τ, h => popE rs J x id S τ h
noncomputable def stepX (cf : CallF) (rs : List IRes) (J : JF) (x : LC → List LI → Fm → Hp → R) (c : LC) (S : List LI) (τ : Fm) (h : Hp) : R :=
  match c with
  | .skip => popX rs J x S τ h
  | .ops l => xOps cf (popX rs J x S) l τ h
  | .draw l => xDraw cf (popX rs J x S) l 0 [] [] τ h
  | .seq a b => x a (.code b none :: S) τ h
  | .join j L a b => x a (.code b (some (j, L)) :: S) τ h
  | .cond o a b => condR (x a S τ h) (x b S τ h) (o.ev τ)
  | .block id b => x b (.blk id :: S) τ h
  | .loop j L _ => J j (L.map (Fm.at τ)) h
  | .exit id => popE rs J x id S τ h
  | .ret => leaveR rs τ h
  | .bad => none
noncomputable def X (cf : CallF) (rs : List IRes) (J : JF) (n : Nat) : LC → List LI → Fm → Hp → R :=
  @Nat.rec (fun _ => LC → List LI → Fm → Hp → R) (fun c S τ h => E cf rs c S τ h) (fun _ x c S τ h => stepX cf rs J x c S τ h) n

/-- What the place with label j does: its temporaries' values, memory. -/
noncomputable def J (cf : CallF) (f : LFn) : JF := fun j vs h => match findPt j (pts f.code []) with
  | some p => E cf f.res p.c p.S (frameL p.L vs) h
  | none => none
/-- What a place does, one round on if it is a loop. -/
noncomputable def XP (cf : CallF) (f : LFn) (p : Pt) (τ : Fm) (h : Hp) : R := match p.c with
  | .loop j L b => X cf f.res (J cf f) 100000 b (.loop j L b :: p.S) τ h
  | c => X cf f.res (J cf f) 100000 c p.S τ h
noncomputable def XJ (cf : CallF) (f : LFn) (j : Nat) (vs : List IV) (h : Hp) : R := match findPt j (pts f.code []) with
  | some p => XP cf f p (frameL p.L vs) h
  | none => none
noncomputable def X0 (cf : CallF) (f : LFn) (args : List IV) (h : Hp) : R := X cf f.res (J cf f) 100000 f.code [] (frameOf args .h .nil) h

section
variable {cf : CallF} {rs : List IRes}

theorem xOp_eq (o : Io) (τ : Fm) (h : Hp) (k : IV → Hp → R) : xOp cf o τ h k = (exOp cf o τ h).bind fun p => k p.1 p.2 := by
  cases o with
  | rd r xs =>
    show (r.ev (evs τ xs) h).bind _ = (exRd r (evs τ xs) h).bind _
    unfold exRd
    cases r.ev (evs τ xs) h <;> rfl
  | al a xs =>
    show (a.ev (evs τ xs) h.next).bind _ = (exAl a (evs τ xs) h).bind _
    unfold exAl
    cases a.ev (evs τ xs) h.next <;> rfl
  | ef e xs => rfl
  | call f xs => rfl
  | bad => rfl
theorem xFz_eq : ∀ (l : List Od) (h : Hp) (τ : Fm) (k : Fm → Hp → R), xFz h τ l k = (frzOds h τ l).bind fun p => k p.1 p.2
  | [], h, τ, k => rfl
  | .c _ :: r, h, τ, k => xFz_eq r h τ k
  | .t n :: r, h, τ, k => by
    show cond (Nat.ble n.num 1000000) ((frz h (Fm.at τ n)).bind fun p => xFz p.2 (putd τ (some n) p.1) r k) none = _
    unfold frzOds
    cases Nat.ble n.num 1000000 with
    | false => rfl
    | true =>
      show (frz h (Fm.at τ n)).bind _ = _
      cases q : frz h (Fm.at τ n) with
      | none => show none = Option.bind (cond true _ none) _; simp [q]
      | some x =>
        show xFz x.2 (putd τ (some n) x.1) r k = Option.bind (cond true _ none) _
        rw [xFz_eq]
        obtain ⟨u, h'⟩ := x
        simp
theorem xOpz_eq (o : IOper) (τ : Fm) (h : Hp) (k : IV → Hp → R) : xOpz cf o τ h k = (exOpz cf o τ h).bind fun p => k p.1 p.2 := by
  unfold xOpz exOpz
  cases o.fz with
  | false => exact xOp_eq _ _ _ _
  | true =>
    show xFz h τ o.op.toFz _ = (exFz cf o.op τ h).bind _
    rw [xFz_eq]
    unfold exFz
    cases frzOds h τ o.op.toFz with
    | none => rfl
    | some x => exact xOp_eq _ _ _ _
theorem xGz_eq (g : Bool) (o : IOper) (τ : Fm) (h : Hp) (k : IV → Hp → R) : xGz cf g o τ h k = (cond g (exOpz cf o τ h) (some (undefd, h))).bind fun p => k p.1 p.2 := by
  unfold xGz
  cases hz : o.fz with
  | true => rfl
  | false =>
    show xG cf g o.op τ h k = _
    have e : exOpz cf o τ h = exOp cf o.op τ h := by unfold exOpz; rw [hz]; rfl
    rw [e]
    cases g with
    | false => cases o.op <;> rfl
    | true =>
      have := xOp_eq (cf := cf) o.op τ h k
      show _ = (exOp cf o.op τ h).bind _
      rw [← this]
      cases o.op with
      | al a xs =>
        show (exAl a (evs τ xs) h).bind _ = (a.ev (evs τ xs) h.next).bind _
        unfold exAl
        cases a.ev (evs τ xs) h.next <;> rfl
      | _ => rfl
theorem runS_fail (S : List LI) : runS cf rs S .fail = none := by cases S <;> unfold runS <;> rfl
theorem runS_ret (S : List LI) (τ : Fm) (h : Hp) : runS cf rs S (.ret τ h) = leaveR rs τ h := by cases S <;> unfold runS <;> rfl
theorem xOps_eq (S : List LI) : ∀ (l : List IOper) (τ : Fm) (h : Hp), xOps cf (fun τ h => runS cf rs S (.nrm τ h)) l τ h = runS cf rs S (exOps cf l τ h)
  | [], τ, h => rfl
  | o :: r, τ, h => by
    have ih := xOps_eq S r
    show (match o.guard with
      | none => xOpz cf o τ h (fun v h' => xOps cf (fun τ h => runS cf rs S (.nrm τ h)) r (putd τ o.dst v) h')
      | some (t, w) => xGz cf (wantV w (Fm.at τ t)) o τ h (fun v h' => xOps cf (fun τ h => runS cf rs S (.nrm τ h)) r (putd τ o.dst v) h')) = _
    unfold exOps
    cases hg : o.guard with
    | none =>
      show xOpz cf o τ h _ = runS cf rs S (opThen (exOps cf r) τ o.dst (exOpz cf o τ h))
      rw [xOpz_eq]
      cases exOpz cf o τ h with
      | none => exact (runS_fail S).symm
      | some x => exact ih _ _
    | some g =>
      obtain ⟨t, w⟩ := g
      show xGz cf (wantV w (Fm.at τ t)) o τ h _ = runS cf rs S (cond (wantV w (Fm.at τ t)) (opThen (exOps cf r) τ o.dst (exOpz cf o τ h)) (exOps cf r (putd τ o.dst undefd) h))
      rw [xGz_eq]
      cases wantV w (Fm.at τ t) with
      | false => exact ih _ _
      | true =>
        show (exOpz cf o τ h).bind _ = runS cf rs S (opThen (exOps cf r) τ o.dst (exOpz cf o τ h))
        cases exOpz cf o τ h with
        | none => exact (runS_fail S).symm
        | some x => exact ih _ _
theorem again_drop {bits : Nat} {h : Hp} {x : Seen} (hx : Nat.testBit bits x.place = true) (b : List Seen) : ∀ a, seenAgain bits h (a ++ x :: b) = seenAgain bits h (a ++ b)
  | [] => by
    show cond (cond (Nat.testBit bits x.place) true _) (seenAgain bits h b) false = _
    rw [hx]; rfl
  | y :: a => by
    show cond _ (seenAgain bits h (a ++ x :: b)) false = cond _ (seenAgain bits h (a ++ b)) false
    rw [again_drop hx b a]
theorem before_drop {bits : Nat} {r : Rd} {xs : List IV} {v : IV} {x : Nat × Hp} (hx : Nat.testBit bits x.1 = true) (b : List (Nat × Hp)) : ∀ a, seenBefore bits r xs v (a ++ x :: b) = seenBefore bits r xs v (a ++ b)
  | [] => by
    show cond (cond (Nat.testBit bits x.1) true _) (seenBefore bits r xs v b) false = _
    rw [hx]; rfl
  | y :: a => by
    show cond _ (seenBefore bits r xs v (a ++ x :: b)) false = cond _ (seenBefore bits r xs v (a ++ b)) false
    rw [before_drop hx b a]
theorem drop_looks (cf : CallF) (x : Seen) (b : List Seen) : ∀ (l : List IOper) (n : Nat) (a : List Seen) (old : List (Nat × Hp)) (τ : Fm) (h : Hp), needs x.place l = false → exDraw cf l n ⟨a ++ x :: b, old⟩ τ h = exDraw cf l n ⟨a ++ b, old⟩ τ h
  | [], _, _, _, _, _, _ => rfl
  | o :: r, n, a, old, τ, h, hn => by
    have hn : cond (Nat.testBit o.bits x.place) (needs x.place r) true = false := hn
    cases ht : Nat.testBit o.bits x.place with
    | false => rw [ht] at hn; cases hn
    | true =>
      rw [ht] at hn
      have hn : needs x.place r = false := hn
      have ih := drop_looks cf x b r
      have ih0 := fun n old τ h (y : Seen) => drop_looks cf x b r n (y :: a) old τ h hn
      rw [exDraw_cons, exDraw_cons]
      cases wantedI o.guard τ with
      | false => exact ih _ _ _ _ _ hn
      | true =>
        show drawThen (exDraw cf r (n + 1)) n o ⟨a ++ x :: b, old⟩ τ h (exOp cf o.op τ h) = drawThen (exDraw cf r (n + 1)) n o ⟨a ++ b, old⟩ τ h (exOp cf o.op τ h)
        cases exOp cf o.op τ h with
        | none => rfl
        | some y =>
          obtain ⟨v, h'⟩ := y
          unfold drawThen
          simp only []
          cases ho : o.op with
          | rd q xs =>
            simp only [drawSt, drawRd]
            cases isR q with
            | false => exact ih _ _ _ _ _ hn
            | true =>
              cases seenBefore o.bits q (evs τ xs) v old with
              | false => rfl
              | true => exact ih0 _ _ _ _ _
          | al al xs => exact ih _ _ _ _ _ hn
          | ef e xs =>
            simp only [drawSt, again_drop ht]
            cases seenAgain o.bits h' (a ++ b) with
            | false => rfl
            | true => exact ih _ _ _ _ _ hn
          | call f xs =>
            simp only [drawSt, again_drop ht]
            cases seenAgain o.bits h' (a ++ b) with
            | false => rfl
            | true => exact ih _ _ _ _ _ hn
          | bad =>
            simp only [drawSt, again_drop ht]
            cases seenAgain o.bits h' (a ++ b) with
            | false => rfl
            | true => exact ih _ _ _ _ _ hn
theorem drop_old (cf : CallF) (x : Nat × Hp) (b : List (Nat × Hp)) : ∀ (l : List IOper) (n : Nat) (looks : List Seen) (a : List (Nat × Hp)) (τ : Fm) (h : Hp), needs x.1 l = false → exDraw cf l n ⟨looks, a ++ x :: b⟩ τ h = exDraw cf l n ⟨looks, a ++ b⟩ τ h
  | [], _, _, _, _, _, _ => rfl
  | o :: r, n, looks, a, τ, h, hn => by
    have hn : cond (Nat.testBit o.bits x.1) (needs x.1 r) true = false := hn
    cases ht : Nat.testBit o.bits x.1 with
    | false => rw [ht] at hn; cases hn
    | true =>
      rw [ht] at hn
      have hn : needs x.1 r = false := hn
      have ih := drop_old cf x b r
      have ih0 := fun n looks τ h (y : Nat × Hp) => drop_old cf x b r n looks (y :: a) τ h hn
      rw [exDraw_cons, exDraw_cons]
      cases wantedI o.guard τ with
      | false => exact ih _ _ _ _ _ hn
      | true =>
        show drawThen (exDraw cf r (n + 1)) n o ⟨looks, a ++ x :: b⟩ τ h (exOp cf o.op τ h) = drawThen (exDraw cf r (n + 1)) n o ⟨looks, a ++ b⟩ τ h (exOp cf o.op τ h)
        cases exOp cf o.op τ h with
        | none => rfl
        | some y =>
          obtain ⟨v, h'⟩ := y
          unfold drawThen
          simp only []
          cases ho : o.op with
          | rd q xs =>
            simp only [drawSt, drawRd, before_drop ht]
            cases isR q with
            | false => exact ih _ _ _ _ _ hn
            | true =>
              cases seenBefore o.bits q (evs τ xs) v (a ++ b) with
              | false => rfl
              | true => exact ih _ _ _ _ _ hn
          | al al xs => exact ih _ _ _ _ _ hn
          | ef e xs =>
            simp only [drawSt]
            cases seenAgain o.bits h' looks with
            | false => rfl
            | true => exact ih0 _ _ _ _ _
          | call f xs =>
            simp only [drawSt]
            cases seenAgain o.bits h' looks with
            | false => rfl
            | true => exact ih0 _ _ _ _ _
          | bad =>
            simp only [drawSt]
            cases seenAgain o.bits h' looks with
            | false => rfl
            | true => exact ih0 _ _ _ _ _
theorem cond_looks (cf : CallF) {r : List IOper} {x : Seen} (b : List Seen) (m : Nat) (old : List (Nat × Hp)) (τ : Fm) (h : Hp) : exDraw cf r m ⟨cond (needs x.place r) (x :: b) b, old⟩ τ h = exDraw cf r m ⟨x :: b, old⟩ τ h := by
  cases c : needs x.place r with
  | true => rfl
  | false => exact (drop_looks cf x b r m [] old τ h c).symm
theorem cond_old (cf : CallF) {r : List IOper} {x : Nat × Hp} (b : List (Nat × Hp)) (m : Nat) (looks : List Seen) (τ : Fm) (h : Hp) : exDraw cf r m ⟨looks, cond (needs x.1 r) (x :: b) b⟩ τ h = exDraw cf r m ⟨looks, x :: b⟩ τ h := by
  cases c : needs x.1 r with
  | true => rfl
  | false => exact (drop_old cf x b r m looks [] τ h c).symm
theorem xDraw_eq (S : List LI) : ∀ (l : List IOper) (n : Nat) (looks : List Seen) (old : List (Nat × Hp)) (τ : Fm) (h : Hp), xDraw cf (fun τ h => runS cf rs S (.nrm τ h)) l n looks old τ h = runS cf rs S (exDraw cf l n ⟨looks, old⟩ τ h)
  | [], _, _, _, τ, h => rfl
  | o :: r, n, looks, old, τ, h => by
    have ih := xDraw_eq S r
    have key : xD cf (needs n r) o n looks old τ h (fun looks old v h' => xDraw cf (fun τ h => runS cf rs S (.nrm τ h)) r (n + 1) looks old (putd τ o.dst v) h') = runS cf rs S (drawThen (exDraw cf r (n + 1)) n o ⟨looks, old⟩ τ h (exOp cf o.op τ h)) := by
      unfold xD
      simp only [ih]
      cases ho : o.op with
      | rd q xs =>
        show (q.ev (evs τ xs) h).bind _ = runS cf rs S (drawThen (exDraw cf r (n + 1)) n o ⟨looks, old⟩ τ h (exRd q (evs τ xs) h))
        unfold exRd
        cases q.ev (evs τ xs) h with
        | none => exact (runS_fail S).symm
        | some v =>
          show cond (isR q) (cond (seenBefore o.bits q (evs τ xs) v old) _ none) _ = runS cf rs S (drawThen (exDraw cf r (n + 1)) n o ⟨looks, old⟩ τ h (some (v, h)))
          unfold drawThen
          simp only [ho]
          unfold drawSt
          simp only []
          unfold drawRd
          cases isR q with
          | false => rfl
          | true =>
            cases seenBefore o.bits q (evs τ xs) v old with
            | false => exact (runS_fail S).symm
            | true => exact congrArg (runS cf rs S) (cond_looks cf (x := ⟨n, q, evs τ xs, v⟩) looks (n + 1) old _ h)
      | al a xs =>
        show (a.ev (evs τ xs) h.next).bind _ = runS cf rs S (drawThen (exDraw cf r (n + 1)) n o ⟨looks, old⟩ τ h (exAl a (evs τ xs) h))
        unfold exAl
        cases a.ev (evs τ xs) h.next with
        | none => exact (runS_fail S).symm
        | some p =>
          obtain ⟨b, v⟩ := p
          simp only [Option.bind_some]
          unfold drawThen
          simp only [ho, drawSt]
      | ef e xs =>
        show (e.ev (evs τ xs) h).bind _ = runS cf rs S (drawThen (exDraw cf r (n + 1)) n o ⟨looks, old⟩ τ h (e.ev (evs τ xs) h))
        cases e.ev (evs τ xs) h with
        | none => exact (runS_fail S).symm
        | some p =>
          obtain ⟨v, h'⟩ := p
          simp only [Option.bind_some]
          unfold drawThen
          simp only [ho, drawSt]
          cases seenAgain o.bits h' looks with
          | false => exact (runS_fail S).symm
          | true => exact congrArg (runS cf rs S) (cond_old cf (x := (n, h)) old (n + 1) looks _ h')
      | call f xs =>
        show (exCall cf (f.ev τ) (evs τ xs) h).bind _ = runS cf rs S (drawThen (exDraw cf r (n + 1)) n o ⟨looks, old⟩ τ h (exCall cf (f.ev τ) (evs τ xs) h))
        cases exCall cf (f.ev τ) (evs τ xs) h with
        | none => exact (runS_fail S).symm
        | some p =>
          obtain ⟨v, h'⟩ := p
          simp only [Option.bind_some]
          unfold drawThen
          simp only [ho, drawSt]
          cases seenAgain o.bits h' looks with
          | false => exact (runS_fail S).symm
          | true => exact congrArg (runS cf rs S) (cond_old cf (x := (n, h)) old (n + 1) looks _ h')
      | bad => exact (runS_fail S).symm
    rw [exDraw_cons]
    show (match o.guard with
      | none => xD cf (needs n r) o n looks old τ h (fun looks old v h' => xDraw cf (fun τ h => runS cf rs S (.nrm τ h)) r (n + 1) looks old (putd τ o.dst v) h')
      | some (t, w) => xE cf (needs n r) (wantV w (Fm.at τ t)) o n looks old τ h (fun looks old v h' => xDraw cf (fun τ h => runS cf rs S (.nrm τ h)) r (n + 1) looks old (putd τ o.dst v) h')) = _
    cases hg : o.guard with
    | none => exact key
    | some g =>
      obtain ⟨t, w⟩ := g
      show xE cf _ _ o n looks old τ h _ = runS cf rs S (cond (wantV w (Fm.at τ t)) (drawThen (exDraw cf r (n + 1)) n o ⟨looks, old⟩ τ h (exOp cf o.op τ h)) (exDraw cf r (n + 1) ⟨looks, old⟩ (putd τ o.dst undefd) h))
      have push : ∀ (g : Bool) (x y : Out), runS cf rs S (cond g x y) = cond g (runS cf rs S x) (runS cf rs S y) := fun g x y => by cases g <;> rfl
      rw [push, ← key]
      unfold xE xD
      simp only [ih]
      cases ho : o.op with
      | rd q xs =>
        simp only []
        cases wantV w (Fm.at τ t) with
        | false => cases isR q <;> cases needs n r <;> rfl
        | true =>
          show ((q.ev (evs τ xs) h).bind _).bind _ = (q.ev (evs τ xs) h).bind _
          cases q.ev (evs τ xs) h with
          | none => rfl
          | some v =>
            simp only [Option.bind_some]
            cases isR q with
            | false => rfl
            | true => cases needs n r <;> cases seenBefore o.bits q (evs τ xs) v old <;> rfl
      | al a xs =>
        simp only []
        cases wantV w (Fm.at τ t) with
        | false => rfl
        | true =>
          show (exAl a (evs τ xs) h).bind _ = (a.ev (evs τ xs) h.next).bind _
          unfold exAl
          cases a.ev (evs τ xs) h.next <;> rfl
      | ef e xs =>
        simp only []
        cases wantV w (Fm.at τ t) with
        | false => cases needs n r <;> rfl
        | true =>
          show ((e.ev (evs τ xs) h).bind _).bind _ = (e.ev (evs τ xs) h).bind _
          cases e.ev (evs τ xs) h with
          | none => rfl
          | some p =>
            simp only [Option.bind_some]
            cases needs n r <;> cases seenAgain o.bits p.2 looks <;> rfl
      | call f xs =>
        simp only []
        cases wantV w (Fm.at τ t) with
        | false => cases needs n r <;> rfl
        | true =>
          show ((exCall cf (f.ev τ) (evs τ xs) h).bind _).bind _ = (exCall cf (f.ev τ) (evs τ xs) h).bind _
          cases exCall cf (f.ev τ) (evs τ xs) h with
          | none => rfl
          | some p =>
            simp only [Option.bind_some]
            cases needs n r <;> cases seenAgain o.bits p.2 looks <;> rfl
      | bad => cases wantV w (Fm.at τ t) <;> rfl

/-! What is looked at behind. -/
noncomputable def XS (F : List Pos) : List LI → (List Pos) × (Nat → List Pos)
  | [] => (F, fun _ => [])
  | .code b none :: S => (lv F b (XS F S).1 (XS F S).2, (XS F S).2)
  | .code _ (some (_, L)) :: S => (L, (XS F S).2)
  | .blk id :: S => ((XS F S).1, fun k => cond (Nat.beq k id) (XS F S).1 ((XS F S).2 k))
  | .loop _ L _ :: S => (L, (XS F S).2)
def okS (PL : List Pt) (F : List Pos) : List LI → Prop
  | [] => True
  | .code b lab :: S => lvOk F b (XS F S).1 (XS F S).2 = true ∧ (∀ p ∈ pts b S, p ∈ PL) ∧ (∀ j L, lab = some (j, L) → ⟨j, L, b, S⟩ ∈ PL ∧ ∀ q ∈ lv F b (XS F S).1 (XS F S).2, q ∈ L) ∧ okS PL F S
  | .blk _ :: S => okS PL F S
  | .loop j L b :: S => ⟨j, L, .loop j L b, S⟩ ∈ PL ∧ lvOk F (.loop j L b) (XS F S).1 (XS F S).2 = true ∧ okS PL F S

theorem leave_ag {τ τ' : Fm} {h : Hp} : ∀ {rs : List IRes} {k : List IV → R}, Ag (resP rs) τ τ' → leaveX τ h rs k = leaveX τ' h rs k
  | [], k, _ => rfl
  | .t n :: r, k, hA => by
    show leaveX τ h r _ = leaveX τ' h r _
    rw [hA n (by simp [resP]), leave_ag (hA.sub fun p hp => by simp [resP, hp])]
  | .cell a n :: r, k, hA => by
    show (evLd n h [Fm.at τ a]).bind _ = (evLd n h [Fm.at τ' a]).bind _
    rw [hA a (by simp [resP])]
    congr 1; funext v
    exact leave_ag (hA.sub fun p hp => by simp [resP, hp])
  | .cell1 a :: r, k, hA => by
    show (evLd1 h [Fm.at τ a]).bind _ = (evLd1 h [Fm.at τ' a]).bind _
    rw [hA a (by simp [resP])]
    congr 1; funext v
    exact leave_ag (hA.sub fun p hp => by simp [resP, hp])
theorem runS_ag {PL : List Pt} : ∀ {S : List LI} {o o' : Out}, okS PL (resP rs) S → OA (resP rs) (XS (resP rs) S).1 (XS (resP rs) S).2 o o' → runS cf rs S o = runS cf rs S o'
  | S, .ret τ h, .ret τ' h', _, k => by
    obtain ⟨rfl, k⟩ := k
    rw [runS_ret, runS_ret]; exact leave_ag k
  | S, .fail, .fail, _, _ => rfl
  | [], .nrm τ h, .nrm τ' h', _, k => by
    obtain ⟨rfl, k⟩ := k
    show leaveR rs τ h = leaveR rs τ' h
    exact leave_ag k
  | [], .exit _ _ _, .exit _ _ _, _, k => rfl
  | .code c none :: S, .nrm τ h, .nrm τ' h', ok, k => by
    obtain ⟨rfl, k⟩ := k
    exact runS_ag (S := S) (o := semW cf c.erase τ h) (o' := semW cf c.erase τ' h) ok.2.2.2 (semW_ag ok.1 k)
  | .code c (some (j, L)) :: S, .nrm τ h, .nrm τ' h', ok, k => by
    obtain ⟨rfl, k⟩ := k
    exact runS_ag (S := S) (o := semW cf c.erase τ h) (o' := semW cf c.erase τ' h) ok.2.2.2 (semW_ag ok.1 (k.sub (ok.2.2.1 j L rfl).2))
  | .code c none :: S, .exit i τ h, .exit i' τ' h', ok, k => by
    obtain ⟨rfl, rfl, k⟩ := k
    exact runS_ag (S := S) (o := .exit i τ h) (o' := .exit i τ' h) ok.2.2.2 ⟨rfl, rfl, k⟩
  | .code c (some (j, L)) :: S, .exit i τ h, .exit i' τ' h', ok, k => by
    obtain ⟨rfl, rfl, k⟩ := k
    exact runS_ag (S := S) (o := .exit i τ h) (o' := .exit i τ' h) ok.2.2.2 ⟨rfl, rfl, k⟩
  | .blk id :: S, .nrm τ h, .nrm τ' h', ok, k => by
    obtain ⟨rfl, k⟩ := k
    exact runS_ag (S := S) (o := .nrm τ h) (o' := .nrm τ' h) ok ⟨rfl, k⟩
  | .blk id :: S, .exit i τ h, .exit i' τ' h', ok, k => by
    obtain ⟨rfl, rfl, k⟩ := k
    have k : Ag (cond (Nat.beq i id) (XS (resP rs) S).1 ((XS (resP rs) S).2 i)) τ τ' := k
    show cond (Nat.beq i id) (runS cf rs S (.nrm τ h)) (runS cf rs S (.exit i τ h)) = cond (Nat.beq i id) (runS cf rs S (.nrm τ' h)) (runS cf rs S (.exit i τ' h))
    cases c : Nat.beq i id with
    | true => rw [c] at k; exact runS_ag (S := S) (o := .nrm τ h) (o' := .nrm τ' h) ok ⟨rfl, k⟩
    | false => rw [c] at k; exact runS_ag (S := S) (o := .exit i τ h) (o' := .exit i τ' h) ok ⟨rfl, rfl, k⟩
  | .loop j L b :: S, .nrm τ h, .nrm τ' h', ok, k => by
    obtain ⟨rfl, k⟩ := k
    exact runS_ag (S := S) (o := semW cf (LC.loop j L b).erase τ h) (o' := semW cf (LC.loop j L b).erase τ' h) ok.2.2 (semW_ag (c := .loop j L b) ok.2.1 k)
  | .loop j L b :: S, .exit i τ h, .exit i' τ' h', ok, k => by
    obtain ⟨rfl, rfl, k⟩ := k
    exact runS_ag (S := S) (o := .exit i τ h) (o' := .exit i τ' h) ok.2.2 ⟨rfl, rfl, k⟩

theorem frameL_at {τ : Fm} : ∀ {L : List Pos}, Ag L τ (frameL L (L.map (Fm.at τ)))
  | [] => fun p hp => by cases hp
  | q :: L => fun p hp => by
    show Fm.at τ p = Fm.at (PT.put (frameL L (L.map (Fm.at τ))) q (some (Fm.at τ q))) p
    by_cases e : p = q
    · subst e
      unfold Fm.at
      rw [PT.get_put_eq]; rfl
    · have : Fm.at (PT.put (frameL L (L.map (Fm.at τ))) q (some (Fm.at τ q))) p = Fm.at (frameL L (L.map (Fm.at τ))) p := by
        unfold Fm.at
        rw [PT.get_put_ne _ _ _ _ e]
      rw [this]
      rcases List.mem_cons.1 hp with h | h
      · exact absurd h e
      · exact frameL_at (L := L) p h

theorem E_seq (a b : LC) (lab : Option (Nat × List Pos)) (S : List LI) (τ : Fm) (h : Hp) : runS cf rs S (semW cf (.seq a.erase b.erase) τ h) = E cf rs a (.code b lab :: S) τ h := by
  rw [semW_seq]
  unfold E
  cases semW cf a.erase τ h with
  | nrm τ1 h1 => cases lab <;> rfl
  | ret τ1 h1 => show runS cf rs S (.ret τ1 h1) = _; rw [runS_ret, runS_ret]
  | exit k τ1 h1 => cases lab <;> rfl
  | fail => show runS cf rs S .fail = _; rw [runS_fail, runS_fail]
theorem E_loop (j : Nat) (L : List Pos) (b : LC) (S : List LI) (τ : Fm) (h : Hp) : E cf rs (.loop j L b) S τ h = E cf rs b (.loop j L b :: S) τ h := by
  unfold E
  show runS cf rs S (semW cf (.loop b.erase) τ h) = _
  rw [semW_loop]
  cases semW cf b.erase τ h with
  | nrm τ1 h1 => rfl
  | ret τ1 h1 => show runS cf rs S (.ret τ1 h1) = _; rw [runS_ret, runS_ret]
  | exit k τ1 h1 => rfl
  | fail => show runS cf rs S .fail = _; rw [runS_fail, runS_fail]

variable {PL : List Pt} {J : JF} (hJ : ∀ p ∈ PL, ∀ τ h, J p.j (p.L.map (Fm.at τ)) h = E cf rs p.c p.S τ h)
theorem popX_eq (hJ : ∀ p ∈ PL, ∀ τ h, J p.j (p.L.map (Fm.at τ)) h = E cf rs p.c p.S τ h) {x : LC → List LI → Fm → Hp → R} (hx : ∀ c S τ h, okS PL (resP rs) S → lvOk (resP rs) c (XS (resP rs) S).1 (XS (resP rs) S).2 = true → (∀ p ∈ pts c S, p ∈ PL) → x c S τ h = E cf rs c S τ h) :
    ∀ (S : List LI) (τ : Fm) (h : Hp), okS PL (resP rs) S → popX rs J x S τ h = runS cf rs S (.nrm τ h)
  | [], τ, h, _ => rfl
  | .code b none :: S, τ, h, ok => hx b S τ h ok.2.2.2 ok.1 ok.2.1
  | .code b (some (j, L)) :: S, τ, h, ok => hJ _ (ok.2.2.1 j L rfl).1 τ h
  | .blk _ :: S, τ, h, ok => popX_eq hJ hx S τ h ok
  | .loop j L b :: S, τ, h, ok => hJ _ ok.1 τ h
theorem popE_eq (hJ : ∀ p ∈ PL, ∀ τ h, J p.j (p.L.map (Fm.at τ)) h = E cf rs p.c p.S τ h) {x : LC → List LI → Fm → Hp → R} (hx : ∀ c S τ h, okS PL (resP rs) S → lvOk (resP rs) c (XS (resP rs) S).1 (XS (resP rs) S).2 = true → (∀ p ∈ pts c S, p ∈ PL) → x c S τ h = E cf rs c S τ h) (id : Nat) :
    ∀ (S : List LI) (τ : Fm) (h : Hp), okS PL (resP rs) S → popE rs J x id S τ h = runS cf rs S (.exit id τ h)
  | [], τ, h, _ => rfl
  | .code b _ :: S, τ, h, ok => popE_eq hJ hx id S τ h ok.2.2.2
  | .blk k :: S, τ, h, ok => by
    show cond (Nat.beq id k) (popX rs J x S τ h) (popE rs J x id S τ h) = cond (Nat.beq id k) _ _
    rw [popX_eq hJ hx S τ h ok, popE_eq hJ hx id S τ h ok]
  | .loop j L b :: S, τ, h, ok => popE_eq hJ hx id S τ h ok.2.2

theorem X_eq (hJ : ∀ p ∈ PL, ∀ τ h, J p.j (p.L.map (Fm.at τ)) h = E cf rs p.c p.S τ h) : ∀ (n : Nat) (c : LC) (S : List LI) (τ : Fm) (h : Hp), okS PL (resP rs) S → lvOk (resP rs) c (XS (resP rs) S).1 (XS (resP rs) S).2 = true → (∀ p ∈ pts c S, p ∈ PL) → X cf rs J n c S τ h = E cf rs c S τ h
  | 0, c, S, τ, h, _, _, _ => rfl
  | n + 1, c, S, τ, h, ok, lo, hp => by
    have ih := X_eq hJ n
    have hpop := popX_eq hJ ih S
    show stepX cf rs J (X cf rs J n) c S τ h = E cf rs c S τ h
    cases c with
    | skip =>
      unfold E
      show popX rs J (X cf rs J n) S τ h = runS cf rs S (semW cf .skip τ h)
      rw [semW_skip]; exact hpop τ h ok
    | ops l =>
      unfold E
      show xOps cf (popX rs J (X cf rs J n) S) l τ h = runS cf rs S (semW cf (.ops l) τ h)
      rw [semW_ops, ← xOps_eq]
      congr 1
      funext τ h; exact hpop τ h ok
    | draw l =>
      unfold E
      show xDraw cf (popX rs J (X cf rs J n) S) l 0 [] [] τ h = runS cf rs S (semW cf (.draw l) τ h)
      rw [semW_draw, ← xDraw_eq]
      congr 1
      funext τ h; exact hpop τ h ok
    | seq a b =>
      obtain ⟨o1, o2⟩ := cond_true (show cond (lvOk (resP rs) b (XS (resP rs) S).1 (XS (resP rs) S).2) (lvOk (resP rs) a (lv (resP rs) b (XS (resP rs) S).1 (XS (resP rs) S).2) (XS (resP rs) S).2) false = true from lo)
      show X cf rs J n a (.code b none :: S) τ h = runS cf rs S (semW cf (.seq a.erase b.erase) τ h)
      rw [E_seq a b none]
      exact ih a (.code b none :: S) τ h ⟨o1, fun p h => hp p (List.mem_append_right _ h), fun _ _ e => (by cases e), ok⟩ o2 (fun p h => hp p (List.mem_append_left _ h))
    | join j L a b =>
      obtain ⟨o0, o⟩ := cond_true (show cond (subP (lv (resP rs) b (XS (resP rs) S).1 (XS (resP rs) S).2) L) (cond (lvOk (resP rs) b (XS (resP rs) S).1 (XS (resP rs) S).2) (lvOk (resP rs) a L (XS (resP rs) S).2) false) false = true from lo)
      obtain ⟨o1, o2⟩ := cond_true o
      show X cf rs J n a (.code b (some (j, L)) :: S) τ h = runS cf rs S (semW cf (.seq a.erase b.erase) τ h)
      rw [E_seq a b (some (j, L))]
      exact ih a (.code b (some (j, L)) :: S) τ h ⟨o1, fun p h => hp p (List.mem_cons_of_mem _ (List.mem_append_right _ h)), fun _ _ e => (by cases e; exact ⟨hp _ (List.mem_cons_self ..), subP_mem o0⟩), ok⟩ o2 (fun p h => hp p (List.mem_cons_of_mem _ (List.mem_append_left _ h)))
    | cond o a b =>
      obtain ⟨o1, o2⟩ := cond_true (show _root_.cond (lvOk (resP rs) a (XS (resP rs) S).1 (XS (resP rs) S).2) (lvOk (resP rs) b (XS (resP rs) S).1 (XS (resP rs) S).2) false = true from lo)
      show condR (X cf rs J n a S τ h) (X cf rs J n b S τ h) (o.ev τ) = runS cf rs S (semW cf (.cond o a.erase b.erase) τ h)
      rw [semW_cond, ih a S τ h ok o1 (fun p h => hp p (List.mem_append_left _ h)), ih b S τ h ok o2 (fun p h => hp p (List.mem_append_right _ h))]
      generalize o.ev τ = v
      cases v with
      | b x => cases x <;> rfl
      | _ => exact (runS_fail S).symm
    | block id b =>
      show X cf rs J n b (.blk id :: S) τ h = runS cf rs S (semW cf (.block id b.erase) τ h)
      rw [semW_block, ih b (.blk id :: S) τ h ok lo hp]
      unfold E
      cases semW cf b.erase τ h with
      | nrm τ1 h1 => rfl
      | ret τ1 h1 => show _ = runS cf rs S (.ret τ1 h1); rw [runS_ret, runS_ret]
      | exit k τ1 h1 =>
        show _root_.cond (Nat.beq k id) _ _ = runS cf rs S (_root_.cond (Nat.beq k id) (.nrm τ1 h1) (.exit k τ1 h1))
        cases Nat.beq k id <;> rfl
      | fail => show _ = runS cf rs S .fail; rw [runS_fail, runS_fail]
    | loop j L b => exact hJ _ (hp _ (List.mem_cons_self ..)) τ h
    | exit id =>
      unfold E
      show popE rs J (X cf rs J n) id S τ h = runS cf rs S (semW cf (.exit id) τ h)
      rw [semW_exit]; exact popE_eq hJ ih id S τ h ok
    | ret =>
      unfold E
      show leaveR rs τ h = runS cf rs S (semW cf .ret τ h)
      rw [semW_ret, runS_ret]
    | bad =>
      unfold E
      show none = runS cf rs S (semW cf .bad τ h)
      have : semW cf .bad τ h = .fail := by
        by_cases c : semW cf .bad τ h = .fail
        · exact c
        · obtain ⟨N, hN⟩ := semW_inv rfl c
          rw [← hN]; rfl
      rw [this, runS_fail]
end
end Go.Fg
/- Code with names for the places where ways meet: calls. -/
namespace Go.Fg

theorem label_erase (F : List Pos) : ∀ (c : ICode) (n : Nat) (N : List Pos) (X : Nat → List Pos), (label F c n N X).1.erase = c
  | .skip, _, _, _ => rfl
  | .ops _, _, _, _ => rfl
  | .draw _, _, _, _ => rfl
  | .exit _, _, _, _ => rfl
  | .ret, _, _, _ => rfl
  | .bad, _, _, _ => rfl
  | .seq a b, n, N, X => by
    unfold label
    have hb := label_erase F b n N X
    simp only []
    split
    · show ICode.seq _ _ = _
      rw [label_erase F a, hb]
    · show ICode.seq _ _ = _
      rw [label_erase F a, hb]
  | .cond c a b, n, N, X => by
    unfold label
    show ICode.cond c _ _ = _
    rw [label_erase F a, label_erase F b]
  | .block id b, n, N, X => by
    unfold label
    show ICode.block id _ = _
    rw [label_erase F b]
  | .loop b, n, N, X => by
    unfold label
    show ICode.loop _ = _
    rw [label_erase F b]

theorem memN_iff {n : Nat} : ∀ {l : List Nat}, memN n l = true ↔ n ∈ l
  | [] => by show false = true ↔ _; simp
  | m :: l => by
    show cond (Nat.beq n m) true (memN n l) = true ↔ _
    rw [List.mem_cons]
    by_cases e : n = m
    · subst e; simp
    · rw [beq_no e]; show memN n l = true ↔ _; rw [memN_iff]; simp [e]
theorem nodupN_iff : ∀ {l : List Nat}, nodupN l = true → l.Nodup
  | [], _ => List.nodup_nil
  | m :: l, h => by
    have h : cond (memN m l) false (nodupN l) = true := h
    cases c : memN m l with
    | true => rw [c] at h; cases h
    | false =>
      rw [c] at h
      refine List.nodup_cons.2 ⟨fun hm => ?_, nodupN_iff h⟩
      rw [memN_iff.2 hm] at c; cases c
theorem findPt_cons (j : Nat) (p : Pt) (l : List Pt) : findPt j (p :: l) = cond (Nat.beq p.j j) (some p) (findPt j l) := rfl
theorem findPt_mem {j : Nat} {p : Pt} : ∀ {l : List Pt}, findPt j l = some p → p ∈ l ∧ p.j = j
  | [], h => by cases h
  | q :: l, h => by
    rw [findPt_cons] at h
    cases c : Nat.beq q.j j with
    | true => rw [c] at h; cases h; exact ⟨List.mem_cons_self .., Nat.eq_of_beq_eq_true c⟩
    | false => rw [c] at h; obtain ⟨a, b⟩ := findPt_mem (l := l) h; exact ⟨List.mem_cons_of_mem _ a, b⟩
theorem findPt_some {p : Pt} : ∀ {l : List Pt}, (l.map (·.j)).Nodup → p ∈ l → findPt p.j l = some p
  | [], _, h => by cases h
  | q :: l, hn, h => by
    rw [findPt_cons]
    rw [List.map_cons, List.nodup_cons] at hn
    rcases List.mem_cons.1 h with rfl | h
    · rw [Nat.beq_refl]; rfl
    · have : q.j ≠ p.j := fun e => hn.1 (by rw [e]; exact List.mem_map_of_mem h)
      rw [beq_no this]
      exact findPt_some hn.2 h

section
variable {cf : CallF} {rs : List IRes}
theorem pts_ok {PL : List Pt} : ∀ (c : LC) (S : List LI), okS PL (resP rs) S → lvOk (resP rs) c (XS (resP rs) S).1 (XS (resP rs) S).2 = true → (∀ p ∈ pts c S, p ∈ PL) →
    ∀ p ∈ pts c S, okS PL (resP rs) p.S ∧ lvOk (resP rs) p.c (XS (resP rs) p.S).1 (XS (resP rs) p.S).2 = true ∧ (∀ q ∈ pts p.c p.S, q ∈ PL) ∧ (∀ q ∈ lv (resP rs) p.c (XS (resP rs) p.S).1 (XS (resP rs) p.S).2, q ∈ p.L)
  | .skip, S, _, _, _, p, hp => by cases hp
  | .ops _, S, _, _, _, p, hp => by cases hp
  | .draw _, S, _, _, _, p, hp => by cases hp
  | .exit _, S, _, _, _, p, hp => by cases hp
  | .ret, S, _, _, _, p, hp => by cases hp
  | .bad, S, _, _, _, p, hp => by cases hp
  | .seq a b, S, ok, lo, hs, p, hp => by
    obtain ⟨o1, o2⟩ := cond_true (show cond (lvOk (resP rs) b (XS (resP rs) S).1 (XS (resP rs) S).2) (lvOk (resP rs) a (lv (resP rs) b (XS (resP rs) S).1 (XS (resP rs) S).2) (XS (resP rs) S).2) false = true from lo)
    have hs1 : ∀ p ∈ pts a (.code b none :: S), p ∈ PL := fun p h => hs p (List.mem_append_left _ h)
    have hs2 : ∀ p ∈ pts b S, p ∈ PL := fun p h => hs p (List.mem_append_right _ h)
    rcases List.mem_append.1 hp with hp | hp
    · exact pts_ok a (.code b none :: S) ⟨o1, hs2, fun _ _ e => (by cases e), ok⟩ o2 hs1 p hp
    · exact pts_ok b S ok o1 hs2 p hp
  | .join j L a b, S, ok, lo, hs, p, hp => by
    obtain ⟨o0, o⟩ := cond_true (show cond (subP (lv (resP rs) b (XS (resP rs) S).1 (XS (resP rs) S).2) L) (cond (lvOk (resP rs) b (XS (resP rs) S).1 (XS (resP rs) S).2) (lvOk (resP rs) a L (XS (resP rs) S).2) false) false = true from lo)
    obtain ⟨o1, o2⟩ := cond_true o
    have hs0 : ⟨j, L, b, S⟩ ∈ PL := hs _ (List.mem_cons_self ..)
    have hs1 : ∀ p ∈ pts a (.code b (some (j, L)) :: S), p ∈ PL := fun p h => hs p (List.mem_cons_of_mem _ (List.mem_append_left _ h))
    have hs2 : ∀ p ∈ pts b S, p ∈ PL := fun p h => hs p (List.mem_cons_of_mem _ (List.mem_append_right _ h))
    rcases List.mem_cons.1 hp with rfl | hp
    · exact ⟨ok, o1, hs2, subP_mem o0⟩
    · rcases List.mem_append.1 hp with hp | hp
      · exact pts_ok a (.code b (some (j, L)) :: S) ⟨o1, hs2, fun _ _ e => (by cases e; exact ⟨hs0, subP_mem o0⟩), ok⟩ o2 hs1 p hp
      · exact pts_ok b S ok o1 hs2 p hp
  | .cond c a b, S, ok, lo, hs, p, hp => by
    obtain ⟨o1, o2⟩ := cond_true (show cond (lvOk (resP rs) a (XS (resP rs) S).1 (XS (resP rs) S).2) (lvOk (resP rs) b (XS (resP rs) S).1 (XS (resP rs) S).2) false = true from lo)
    have hs1 : ∀ p ∈ pts a S, p ∈ PL := fun p h => hs p (List.mem_append_left _ h)
    have hs2 : ∀ p ∈ pts b S, p ∈ PL := fun p h => hs p (List.mem_append_right _ h)
    rcases List.mem_append.1 hp with hp | hp
    · exact pts_ok a S ok o1 hs1 p hp
    · exact pts_ok b S ok o2 hs2 p hp
  | .block id b, S, ok, lo, hs, p, hp => pts_ok b (.blk id :: S) ok lo hs p hp
  | .loop j L b, S, ok, lo, hs, p, hp => by
    obtain ⟨o0, o1⟩ := cond_true (show cond (subP (lv (resP rs) b L (XS (resP rs) S).2) L) (lvOk (resP rs) b L (XS (resP rs) S).2) false = true from lo)
    have hs0 : ⟨j, L, .loop j L b, S⟩ ∈ PL := hs _ (List.mem_cons_self ..)
    rcases List.mem_cons.1 hp with rfl | hp
    · exact ⟨ok, lo, hs, fun q hq => hq⟩
    · exact pts_ok b (.loop j L b :: S) ⟨hs0, lo, ok⟩ o1 (fun p h => hs p (List.mem_cons_of_mem _ h)) p hp

variable {f : LFn} (ok : okFn f = true)
theorem okFn_lv (ok : okFn f = true) : lvOk (resP f.res) f.code (XS (resP f.res) []).1 (XS (resP f.res) []).2 = true := (cond_true (show cond _ _ false = true from ok)).1
theorem okFn_nodup (ok : okFn f = true) : ((pts f.code []).map (·.j)).Nodup := nodupN_iff (cond_true (show cond _ _ false = true from ok)).2
theorem J_pts (ok : okFn f = true) : ∀ p ∈ pts f.code [], ∀ τ h, J cf f p.j (p.L.map (Fm.at τ)) h = E cf f.res p.c p.S τ h := by
  intro p hp τ h
  unfold J
  rw [findPt_some (okFn_nodup ok) hp]
  obtain ⟨k1, k2, k3, k4⟩ := pts_ok (rs := f.res) (PL := pts f.code []) f.code [] trivial (okFn_lv ok) (fun _ h => h) p hp
  unfold E
  exact (runS_ag k1 (semW_ag k2 (frameL_at.sub k4))).symm
/-- EACH PLACE DOES WHAT ITS EXPRESSION SAYS. -/
theorem J_eq (ok : okFn f = true) (j : Nat) (vs : List IV) (h : Hp) : J cf f j vs h = XJ cf f j vs h := by
  unfold XJ
  cases hf : findPt j (pts f.code []) with
  | none => unfold J; rw [hf]
  | some p =>
    obtain ⟨hp, rfl⟩ := findPt_mem hf
    obtain ⟨k1, k2, k3, k4⟩ := pts_ok (rs := f.res) (PL := pts f.code []) f.code [] trivial (okFn_lv ok) (fun _ h => h) p hp
    have hJ := J_pts (cf := cf) ok
    have plain : X cf f.res (J cf f) 100000 p.c p.S (frameL p.L vs) h = E cf f.res p.c p.S (frameL p.L vs) h := X_eq hJ 100000 p.c p.S _ h k1 k2 k3
    have e1 : J cf f p.j vs h = E cf f.res p.c p.S (frameL p.L vs) h := by unfold J; rw [hf]
    rw [e1]
    show _ = XP cf f p (frameL p.L vs) h
    unfold XP
    cases hc : p.c with
    | loop j L b =>
      rw [hc] at k2 k3
      obtain ⟨o0, o1⟩ := cond_true (show cond (subP (lv (resP f.res) b L (XS (resP f.res) p.S).2) L) (lvOk (resP f.res) b L (XS (resP f.res) p.S).2) false = true from k2)
      rw [E_loop]
      exact (X_eq hJ 100000 b (.loop j L b :: p.S) _ h ⟨k3 _ (List.mem_cons_self ..), k2, k1⟩ o1 (fun q hq => k3 q (List.mem_cons_of_mem _ hq))).symm
    | _ => rw [hc] at plain; exact plain.symm
theorem X0_eq (ok : okFn f = true) (args : List IV) (h : Hp) : X0 cf f args h = E cf f.res f.code [] (frameOf args .h .nil) h :=
  X_eq (J_pts ok) 100000 f.code [] _ h trivial (okFn_lv ok) (fun _ h => h)
end
theorem runW_eq {cf : CallF} {fn : IFn} (ok : okFn (labFn fn) = true) (args : List IV) (h : Hp) : runW cf fn args h = X0 cf (labFn fn) args h := by
  rw [X0_eq ok]
  unfold runW E
  have : (labFn fn).code.erase = fn.body := label_erase _ _ _ _ _
  rw [this]
  show leaveI fn.res _ = runS cf fn.res [] _
  cases semW cf fn.body (frameOf args .h .nil) h with
  | nrm τ h => exact (leaveR_eq _ _ _).symm
  | ret τ h => rw [runS_ret]; exact (leaveR_eq _ _ _).symm
  | exit _ _ _ => rfl
  | fail => rfl

/-! ### A program's functions, by their numbers -/
section
variable (P : Program) (Z : Nat → Oper → Bool)
noncomputable def tab : Pos → Option IFn := fun p => cond (Nat.ble p.num 1000000) (compFn P Z (p.num - 1)) none
noncomputable def lfn (k : Nat) : LFn := match compFn P Z k with
  | some f => labFn f
  | none => ⟨[], .bad⟩
noncomputable def okN (k : Nat) : Bool := match compFn P Z k with
  | some f => cond (Nat.blt k 1000000) (okFn (labFn f)) false
  | none => false
variable {P Z}
theorem tab_ok : ∀ n f, n < 1000000 → tab P Z (pos n) = some f → compFn P Z n = some f := by
  intro n f hn h
  unfold tab at h
  obtain ⟨h1, h2⟩ := cond_some h
  rwa [num_pos hn, Nat.add_sub_cancel] at h2
theorem tab_pos {k : Nat} (hk : k < 1000000) : tab P Z (pos k) = compFn P Z k := by
  unfold tab
  rw [num_pos hk, Nat.add_sub_cancel, Nat.ble_eq_true_of_le (by omega)]
  rfl
theorem okN_inv {k : Nat} (h : okN P Z k = true) : ∃ fn, tab P Z (pos k) = some fn ∧ lfn P Z k = labFn fn ∧ okFn (labFn fn) = true ∧ okFn (lfn P Z k) = true ∧ k < 1000000 := by
  unfold okN at h
  split at h
  · rename_i f hf
    obtain ⟨h1, h2⟩ := cond_true h
    have hk : k < 1000000 := by rwa [Nat.blt_eq] at h1
    have e : lfn P Z k = labFn f := by unfold lfn; rw [hf]
    exact ⟨f, by rw [tab_pos hk]; exact hf, e, h2, by rw [e]; exact h2, hk⟩
  · cases h
variable {pl : Pos → List IV → Option IV} {imp : Pos → Bool}
/-- A call that sees what no one writes any more. -/
theorem call_pure {k : Nat} {args args' : List IV} {h h1 h2 h3 : Hp} {r r' : IV} (ok : okN P Z k = true) (hi : imp (pos k) = false) (ha : frzs h args = some (args', h1)) (hp : pl (pos k) args' = none)
    (e : X0 (W pl imp (tab P Z)) (lfn P Z k) args' Hp.empty = some (r, h2)) (hr : frz h2 r = some (r', h3)) : W pl imp (tab P Z) (pos k) args h = some (r', h1) := by
  obtain ⟨fn, h1, h2, h3, h4, _⟩ := okN_inv ok
  refine W_pure hi h1 ha hp ?_ hr
  rw [runW_eq h3, ← h2]; exact e
theorem call_imp {k : Nat} {args : List IV} {h : Hp} {r : IV × Hp} (ok : okN P Z k = true) (hi : imp (pos k) = true) (e : X0 (W pl imp (tab P Z)) (lfn P Z k) args h = some r) : W pl imp (tab P Z) (pos k) args h = some r := by
  obtain ⟨fn, h1, h2, h3, h4, _⟩ := okN_inv ok
  refine W_imp hi h1 ?_
  rw [runW_eq h3, ← h2]; exact e
theorem place {k : Nat} (ok : okN P Z k = true) (cf : CallF) (j : Nat) (vs : List IV) (h : Hp) : J cf (lfn P Z k) j vs h = XJ cf (lfn P Z k) j vs h := by
  obtain ⟨fn, h1, h2, h3, h4, _⟩ := okN_inv ok
  exact J_eq h4 j vs h
end
end Go.Fg
/- Ranges over maps: what the model's three operations do. -/
namespace Go.Fg
section
variable {P : Program} {w : World} {o : Oper} {ρ : Operand → Value}

theorem run_getO {r : Nat} {x : Obj} (h : w.heap[r]? = some x) (hc : ∀ c e f, x ≠ .cells c e f) : (getObj r).run P w = .ok x w := by
  unfold getObj
  cases x <;> simp_all [Sem.run]
theorem run_setO {r : Nat} {x y : Obj} (h : w.heap[r]? = some x) (hc : ∀ c e f, x ≠ .cells c e f) : (setObj r y).run P w = .ok () { w with heap := w.heap.setIfInBounds r y } := by
  unfold setObj
  cases x <;> simp_all [Sem.run]
theorem run_choose {n : Nat} (q : Question) (hq : ∀ t, 0 < n → q.cut t < n) (hn : 0 < n) : ∃ (i : Nat) (w' : World), i < n ∧ (choose q).run P w = .ok i w' ∧ w'.heap = w.heap ∧ sameOut w w' := by
  unfold choose
  cases c : q.forced with
  | true => exact ⟨0, w, hn, by simp [Sem.run, c], rfl, .refl w⟩
  | false => exact ⟨q.cut (w.tape w.drawn q), { w with drawn := w.drawn + 1 }, hq _ hn, by simp [Sem.run, c], rfl, rfl, rfl, rfl, fun _ => rfl⟩
theorem run_choose_map {n : Nat} (hn : 0 < n) : ∃ (i : Nat) (w' : World), i < n ∧ (choose (.mapNext n)).run P w = .ok i w' ∧ w'.heap = w.heap ∧ sameOut w w' :=
  run_choose (n := n) (.mapNext n) (fun t h => by show t % n < n; exact Nat.mod_lt _ h) hn

/-- What may come next. -/
def leftM (es : Array MapEntry) (seen : Array Nat) : Array MapEntry := es.filter fun e => !seen.contains e.born
def candsM (es : Array MapEntry) (since : Nat) (seen : Array Nat) : Array (Option MapEntry) :=
  (if ((leftM es seen).filter (·.born < since)).isEmpty then #[none] else #[]) ++ (((leftM es seen).filter (·.born < since)) ++ ((leftM es seen).filter (·.born ≥ since))).map some
theorem candsM_pos (es : Array MapEntry) (since : Nat) (seen : Array Nat) : 0 < (candsM es since seen).size := by
  unfold candsM
  split
  · simp; omega
  · rename_i h
    have : 0 < ((leftM es seen).filter (·.born < since)).size := by
      rcases Nat.eq_zero_or_pos ((leftM es seen).filter (·.born < since)).size with c | c
      · exact absurd (by simpa [Array.isEmpty] using c) h
      · exact c
    rw [Array.size_append, Array.size_map, Array.size_append]
    omega

theorem range_run {xt : TypeId} {x : Operand} {k e : TypeId} {m : Nat} {es : Array MapEntry} {clock : Nat} (ho : o.op = .range xt x) (hu : P.underlying xt = some (.map k e)) (hx : ρ x = .map (some m)) (hm : w.heap[m]? = some (.map es clock)) :
    (execOp ρ o).run P w = .ok (.value (.pointer (some ⟨w.heap.size, 0, none⟩))) { w with heap := w.heap.push (.mapIter (some m) clock #[] clock) } := by
  simp [execOp, ho, hx, Instr.range, run_underlying hu, run_getO hm (by intro _ _ _ h; cases h), newObj, Sem.run]
theorem next_over {it : Operand} {r : Nat} {s : Nat} {sn : Array Nat} {l : Nat} (ho : o.op = .next it false) (hx : ρ it = .pointer (some ⟨r, 0, none⟩)) (hr : w.heap[r]? = some (.mapIter none s sn l)) :
    (execOp ρ o).run P w = .ok (.value (.tuple #[.bool false])) w := by
  simp [execOp, ho, hx, Instr.next, run_getO hr (by intro _ _ _ h; cases h)]
theorem next_run {it : Operand} {r m since last clock : Nat} {seen : Array Nat} {es : Array MapEntry} (ho : o.op = .next it false) (hx : ρ it = .pointer (some ⟨r, 0, none⟩)) (hr : w.heap[r]? = some (.mapIter (some m) since seen last)) (hm : w.heap[m]? = some (.map es clock))
    (hc : (!seen.isEmpty && !es.isEmpty && es.all (fun e => decide (e.born ≥ last))) = false) :
    ∃ (i : Nat) (w' : World), w'.heap = w.heap ∧ sameOut w w' ∧ (((candsM es since seen)[i]? = some none ∧ (execOp ρ o).run P w = .ok (.value (.tuple #[.bool false])) w') ∨
      ∃ e : MapEntry, (candsM es since seen)[i]? = some (some e) ∧ (execOp ρ o).run P w = .ok (.value (.tuple #[.bool true, e.key, e.val])) { w' with heap := w.heap.setIfInBounds r (.mapIter (some m) since (seen.push e.born) clock) }) := by
  obtain ⟨i, w', h1, h2, h3, h4⟩ := run_choose_map (P := P) (w := w) (candsM_pos es since seen)
  refine ⟨i, w', h3, h4, ?_⟩
  have hi : i < (candsM es since seen).size := h1
  have hc' : ¬ (!seen.isEmpty && !es.isEmpty && es.all (fun e => decide (e.born ≥ last))) = true := by rw [hc]; exact fun h => by cases h
  have hr' : w'.heap[r]? = some (.mapIter (some m) since seen last) := by rw [h3]; exact hr
  cases hq : (candsM es since seen)[i]? with
  | none => rw [Array.getElem?_eq_getElem hi] at hq; cases hq
  | some c =>
    cases c with
    | none =>
      refine .inl ⟨rfl, ?_⟩
      simp only [execOp, ho, hx, Instr.next, Sem.run_bind, run_getO hr (by intro _ _ _ h; cases h), run_getO hm (by intro _ _ _ h; cases h), Result.andThen_ok]
      rw [if_neg hc']
      unfold candsM leftM at h2 hq
      rw [Sem.run_bind, h2]
      simp only [Result.andThen_ok, hq, Sem.run_pure]
    | some e =>
      refine .inr ⟨e, rfl, ?_⟩
      simp only [execOp, ho, hx, Instr.next, Sem.run_bind, run_getO hr (by intro _ _ _ h; cases h), run_getO hm (by intro _ _ _ h; cases h), Result.andThen_ok]
      rw [if_neg hc']
      unfold candsM leftM at h2 hq
      rw [Sem.run_bind, h2]
      simp only [Result.andThen_ok, hq, Sem.run_bind, run_setO hr' (by intro _ _ _ h; cases h), Sem.run_pure, h3]
theorem entry_run {it : Operand} {r m since last clock stamp : Nat} {seen : Array Nat} {es : Array MapEntry} {e : MapEntry} (ho : o.op = .entry it) (hx : ρ it = .pointer (some ⟨r, 0, none⟩)) (hr : w.heap[r]? = some (.mapIter (some m) since seen last)) (hm : w.heap[m]? = some (.map es clock))
    (hs : seen.back? = some stamp) (hc : clock = last) (he : es.find? (fun x => x.born == stamp) = some e) : (execOp ρ o).run P w = .ok (.value (.tuple #[e.key, e.val])) w := by
  subst hc
  simp [execOp, ho, hx, Instr.entry, run_getO hr (by intro _ _ _ h; cases h), run_getO hm (by intro _ _ _ h; cases h), hs, he]
theorem bound_run {n : Nat} {first : Array Operand} (ho : o.op = .makeFunc (.func n) first #[]) : (execOp ρ o).run P w = .ok (.value (.func (.func n) (first.map ρ) #[])) w := by
  simp [execOp, ho, Instr.makeFunc]
end
end Go.Fg
/- The ideal machine: a law without input. -/
namespace Go.Fg

theorem Fin.grown {ι ι' : Emb} {H H' : Hp} {w w' : World} (f : Fin ι H w ι' H' w') (hn : ∀ b L, ι b = some L → H.get b = none) : RowKit.Grown w w' := by
  refine ⟨⟨f.out.2.1, f.out.2.2.1, fun i hi => ?_⟩, f.out.2.2.2, f.size⟩
  rw [f.frame i hi fun b L h1 h2 => absurd (hn b L h1) h2]
  generalize w.heap[i]? = o
  cases o with
  | none => rfl
  | some o => cases o <;> simp

/-- A function without parameters that tells 'true' returns true in every world. -/
theorem closed_true {P : Program} {k : Nat} (h : Tells P k [] (.b true)) (w : World) : Calls P k #[] w fun e w' => e = .returned (.bool true) ∧ RowKit.Grown w w' := by
  have hr : HR (Emb.bare ⟨fun _ => none, fun _ _ _ => False⟩) Hp.empty w :=
    { pro := fun x r sh h => h.elim
      apart := fun b x L y r sh hb => by rw [Hp.get_empty] at hb; cases hb
      blk := fun b x L hb => by rw [Hp.get_empty] at hb; cases hb
      inj := fun b₁ b₂ L₁ L₂ hb => absurd (Hp.get_empty b₁) hb
      lt := fun b L hb => by cases hb
      low := fun b hb => absurd (Hp.get_empty b) hb }
  refine (h.2 ⟨fun _ => none, fun _ _ _ => False⟩ w #[] .nil hr).mono fun e w' hq => ?_
  obtain ⟨v', ι', h', rfl, hv, hf⟩ := hq
  cases hv
  exact ⟨rfl, hf.grown fun b L hb => by cases hb⟩
end Go.Fg
