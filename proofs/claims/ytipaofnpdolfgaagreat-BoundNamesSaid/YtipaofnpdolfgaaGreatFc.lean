/- The ideal machine: freezing is sound: what no one writes any more may be told by its content. -/
import Derived.Test.YtipaofnpdolfgaaGreatFb
import Derived.LoopN
import Derived.Orders
set_option linter.unusedSectionVars false
set_option linter.unusedSimpArgs false
set_option linter.unusedVariables false



namespace Go.Fg

/-! What freezing leaves of memory. -/
structure Same (h h' : Hp) : Prop where
  next : h'.next = h.next
  cells : ∀ b, cellsOf (h'.get b) = cellsOf (h.get b)
  maps : ∀ b, mapOf (h'.get b) = mapOf (h.get b)
theorem Same.refl (h : Hp) : Same h h := ⟨rfl, fun _ => rfl, fun _ => rfl⟩
theorem Same.trans {a b c : Hp} (h : Same a b) (k : Same b c) : Same a c := ⟨k.next.trans h.next, fun x => (k.cells x).trans (h.cells x), fun x => (k.maps x).trans (h.maps x)⟩
theorem Same.rc {h : Hp} {b : Pos} {m : Nat} {l : List IV} (hb : cellsOf (h.get b) = some (m, l)) : Same h (h.set b (.rc m l)) := by
  have hg : h.get b = some (.cells m l) ∨ h.get b = some (.rc m l) := by
    unfold cellsOf at hb
    split at hb <;> cases hb
    · exact .inl ‹_›
    · exact .inr ‹_›
  refine ⟨rfl, fun c => ?_, fun c => ?_⟩
  · by_cases e : c = b
    · subst e; rw [Hp.get_set_eq, hb]; rfl
    · rw [Hp.get_set_ne _ _ e]
  · by_cases e : c = b
    · subst e; rw [Hp.get_set_eq]; rcases hg with hg | hg <;> rw [hg] <;> rfl
    · rw [Hp.get_set_ne _ _ e]
theorem Same.rm {h : Hp} {b : Pos} {es : List IEnt} {c : Nat} (hb : mapOf (h.get b) = some (es, c)) : Same h (h.set b (.rm es c)) := by
  have hg := mapOf_inv hb
  refine ⟨rfl, fun c => ?_, fun c => ?_⟩
  · by_cases e : c = b
    · subst e; rw [Hp.get_set_eq]; rcases hg with hg | hg <;> rw [hg] <;> rfl
    · rw [Hp.get_set_ne _ _ e]
  · by_cases e : c = b
    · subst e; rw [Hp.get_set_eq, hb]; rfl
    · rw [Hp.get_set_ne _ _ e]

theorem frzL_nil (f : Hp → IV → Option (IV × Hp)) (h : Hp) : frzL f h [] = some ([], h) := rfl
theorem frzL_cons_inv {f : Hp → IV → Option (IV × Hp)} {h : Hp} {v : IV} {vs us : List IV} {h' : Hp} (e : frzL f h (v :: vs) = some (us, h')) :
    ∃ u h1 us', f h v = some (u, h1) ∧ frzL f h1 vs = some (us', h') ∧ us = u :: us' := by
  unfold frzL at e
  split at e
  · cases e
  · rename_i u h1 e1
    split at e
    · cases e
    · rename_i us' h2 e2
      cases e
      exact ⟨u, h1, us', e1, e2, rfl⟩
theorem frzL_same {f : Hp → IV → Option (IV × Hp)} (hf : ∀ h v u h', f h v = some (u, h') → Same h h') : ∀ {l : List IV} {h : Hp} {us : List IV} {h' : Hp}, frzL f h l = some (us, h') → Same h h' ∧ us.length = l.length
  | [], h, us, h', e => by rw [frzL_nil] at e; cases e; exact ⟨.refl _, rfl⟩
  | v :: vs, h, us, h', e => by
    obtain ⟨u, h1, us', e1, e2, rfl⟩ := frzL_cons_inv e
    obtain ⟨k1, k2⟩ := frzL_same hf e2
    exact ⟨(hf _ _ _ _ e1).trans k1, by simp [k2]⟩
theorem frzF_same : ∀ (n : Nat) (h : Hp) (v u : IV) (h' : Hp), frzF n h v = some (u, h') → Same h h'
  | 0, _, _, _, _, e => by cases e
  | n + 1, h, v, u, h', e => by
    have ih := frzF_same n
    unfold frzF at e
    split at e
    · split at e
      · rename_i hm
        split at e
        · rename_i hl; cases e
          obtain ⟨k, _⟩ := frzL_same ih hl
          exact k.trans (.rc (by rw [k.cells]; exact hm))
        · cases e
      · cases e
    · rename_i len _ _
      cases c : Nat.beq len 0 with
      | true => rw [c] at e; cases e; exact .refl _
      | false =>
        rw [c] at e
        simp only [cond_false] at e
        split at e
        · rename_i hm
          obtain ⟨_, e⟩ := cond_some e
          split at e
          · rename_i hl; cases e
            obtain ⟨k, _⟩ := frzL_same ih hl
            exact k.trans (.rc (by rw [k.cells]; exact hm))
          · cases e
        · cases e
    · split at e
      · rename_i hm
        split at e
        · rename_i hl
          split at e
          · rename_i hl2; cases e
            obtain ⟨k, _⟩ := frzL_same ih hl
            obtain ⟨k2, _⟩ := frzL_same ih hl2
            exact (k.trans k2).trans (.rm (by rw [(k.trans k2).maps]; exact hm))
          · cases e
        · cases e
      · cases e
    · cases e; exact .refl _
    · cases e; exact .refl _
    · split at e
      · rename_i hl; cases e; exact (frzL_same ih hl).1
      · cases e
    · split at e
      · rename_i hl; cases e; exact (frzL_same ih hl).1
      · cases e
    · split at e
      · rename_i hl; cases e; exact (frzL_same ih hl).1
      · cases e
    · split at e
      · rename_i hl; cases e; exact ih _ _ _ _ hl
      · cases e
    · cases e; exact .refl _

section
variable {P : Program} {ι : Emb} {H : Hp} {w : World}

theorem Same.some_iff {h h' : Hp} (s : Same h h') (b : Pos) : h'.get b ≠ none → h.get b ≠ none := by
  intro e
  cases q : h'.get b with
  | none => exact absurd q e
  | some x =>
    have h1 := s.cells b
    have h2 := s.maps b
    intro q2
    rw [q, q2] at h1 h2
    cases x <;> first | (cases h1; done) | (cases h2; done)

/-- One more block that no one writes any more. -/
def Emb.add (ι : Emb) (x : IB) (r sh : Nat) : Emb := ⟨ι.m, fun y q s => ι.im y q s ∨ (y = x ∧ q = r ∧ s = sh)⟩
theorem Emb.le_add (ι : Emb) (x : IB) (r sh : Nat) : ι.le (ι.add x r sh) := ⟨fun _ _ h => h, fun _ _ _ h => .inl h⟩
theorem Emb.add_im (ι : Emb) (x : IB) (r sh : Nat) : (ι.add x r sh).im x r sh := .inr ⟨rfl, rfl, rfl⟩

theorem Fin.freeze (hH : HR ι H w) {b : Pos} {y z : Blk} {L : Loc} {x : IB} {sh : Nat} (hb : H.get b = some z) (hL : ι b = some L) (hy : y.live = false) (hbr : BR ι y L w) (hx : BI ι.bare x L.r sh w) :
    Fin ι H w (ι.add x L.r sh) (H.set b y) w where
  ext := ι.le_add x L.r sh
  fresh c h1 h2 := absurd h1 h2
  hr := {
    pro := fun u r s hu => by
      rcases hu with hu | ⟨rfl, rfl, rfl⟩
      · exact (hH.pro u r s hu).mono (ι.le_add x L.r sh).bare rfl
      · exact hx.mono (ι.le_add u L.r s).bare rfl
    apart := fun c q M u r s hc hlive hM hu => by
      have e : c ≠ b := fun e => by
        subst e
        rw [Hp.get_set_eq] at hc; cases hc
        rw [hy] at hlive; cases hlive
      rw [Hp.get_set_ne _ _ e] at hc
      rcases hu with hu | ⟨rfl, rfl, rfl⟩
      · exact hH.apart c q M u r s hc hlive hM hu
      · intro er
        exact e (hH.inj c b M L (by simp [hc]) (by simp [hb]) hM hL er.symm)
    blk := fun c q M hc hM => by
      by_cases e : c = b
      · subst e
        rw [Hp.get_set_eq] at hc; cases hc
        have hM : ι c = some M := hM
        rw [hL] at hM; cases hM
        exact hbr.mono (ι.le_add x L.r sh) rfl
      · rw [Hp.get_set_ne _ _ e] at hc
        exact (hH.blk c q M hc hM).mono (ι.le_add x L.r sh) rfl
    inj := fun c₁ c₂ M₁ M₂ h1 h2 => hH.inj c₁ c₂ M₁ M₂ (by
        by_cases e : c₁ = b
        · subst e; simp [hb]
        · rwa [Hp.get_set_ne _ _ e] at h1) (by
        by_cases e : c₂ = b
        · subst e; simp [hb]
        · rwa [Hp.get_set_ne _ _ e] at h2)
    lt := hH.lt
    low := fun c hc => by
      rw [Hp.next_set]
      refine hH.low c ?_
      by_cases e : c = b
      · subst e; simp [hb]
      · rwa [Hp.get_set_ne _ _ e] at hc }
  up := Nat.le_refl _
  size := Nat.le_refl _
  frame _ _ _ := rfl
  cover c M hM hc hr := by
    refine ⟨c, M, hM, ?_, rfl⟩
    by_cases e : c = b
    · subst e; simp [hb]
    · rwa [Hp.get_set_ne _ _ e] at hc
  icov u r s hu hr := by
    rcases hu with hu | ⟨rfl, rfl, rfl⟩
    · exact .inl ⟨u, s, hu⟩
    · exact .inr ⟨b, L, hL, by simp [hb], rfl⟩
  still c hc hn := Hp.get_set_ne _ _ fun e => by subst e; rw [hL] at hn; cases hn
  out := .refl _

def FzOk (P : Program) (ι : Emb) (H : Hp) (w : World) (u : IV) (v' : Value) (H' : Hp) : Prop := ∃ ι', Fin ι H w ι' H' w ∧ ι'.m = ι.m ∧ VR ι'.bare u v'
def FzsOk (P : Program) (ι : Emb) (H : Hp) (w : World) (u : List IV) (v' : List Value) (H' : Hp) : Prop := ∃ ι', Fin ι H w ι' H' w ∧ ι'.m = ι.m ∧ VRs ι'.bare u v'

theorem frzL_sound {f : Hp → IV → Option (IV × Hp)} (hf : ∀ (ι : Emb) (H : Hp) (v u : IV) (v' : Value) (H' : Hp), HR ι H w → VR ι v v' → f H v = some (u, H') → FzOk P ι H w u v' H') :
    ∀ {l : List IV} {ι : Emb} {H : Hp} {us : List IV} {l' : List Value} {H' : Hp}, HR ι H w → VRs ι l l' → frzL f H l = some (us, H') → FzsOk P ι H w us l' H'
  | [], ι, H, us, l', H', hH, hv, e => by
    rw [frzL_nil] at e; cases e; cases hv
    exact ⟨ι, .refl hH, rfl, .nil⟩
  | v :: vs, ι, H, us, l', H', hH, hv, e => by
    obtain ⟨u, h1, us', e1, e2, rfl⟩ := frzL_cons_inv e
    cases hv with
    | cons _ y _ ys hx ht =>
      obtain ⟨ι1, k1, k2, k3⟩ := hf ι H v u y h1 hH hx e1
      obtain ⟨ι2, m1, m2, m3⟩ := frzL_sound hf k1.hr (ht.mono k1.ext) e2
      exact ⟨ι2, k1.trans m1, m2.trans k2, .cons _ _ _ _ (k3.mono m1.ext.bare) m3⟩

theorem chunks_length (z : Nat) : ∀ n l, (chunks z n l).length = n
  | 0, _ => rfl
  | n + 1, l => by show (l.take z :: chunks z n (l.drop z)).length = _; rw [List.length_cons, chunks_length z n]
theorem chunks_flatten (z : Nat) : ∀ n (l : List IV), l.length = n * z → (chunks z n l).flatten = l
  | 0, l, h => by
    have : l = [] := by simpa using h
    subst this; rfl
  | n + 1, l, h => by
    show (l.take z :: chunks z n (l.drop z)).flatten = _
    rw [List.flatten_cons, chunks_flatten z n _ (by rw [List.length_drop, h, Nat.add_mul]; omega), List.take_append_drop]
theorem chunks_each (z : Nat) : ∀ n (l : List IV), l.length = n * z → ∀ e ∈ chunks z n l, e.length = z
  | 0, _, _, e, he => by cases he
  | n + 1, l, h, e, he => by
    rcases List.mem_cons.1 (show e ∈ l.take z :: chunks z n (l.drop z) from he) with rfl | he
    · rw [List.length_take, h, Nat.add_mul]; omega
    · exact chunks_each z n _ (by rw [List.length_drop, h, Nat.add_mul]; omega) e he

/-- A window of a block's cells, as the world has them. -/
theorem cr_window {m o n : Nat} {l : List IV} {L : Loc} (h : CR ι m l L w) (hn : o + n ≤ m) :
    ∃ (c : Array Value) (e : TypeId) (fr : Nat × Nat), w.heap[L.r]? = some (.cells c e fr) ∧ L.sh + o + n ≤ c.size ∧ VRs ι ((l.drop o).take n) ((c.toList.drop (L.sh + o)).take n) := by
  obtain ⟨g1, g2, c, e, lo, hi, g3, g4, g5, g6⟩ := h
  refine ⟨c, e, (lo, hi), g3, by omega, VRs.of_get (by simp; omega) fun i v hv => ?_⟩
  have hi' : i < n := by
    have := (List.getElem?_eq_some_iff.1 hv).1
    simp at this; omega
  have hv' : l[o + i]? = some v := by
    simpa [List.getElem?_take, hi', List.getElem?_drop] using hv
  obtain ⟨v', f1, f2⟩ := g6 _ _ hv'
  refine ⟨v', ?_, f2⟩
  rw [List.getElem?_take, if_pos hi', List.getElem?_drop, show L.sh + o + i = L.sh + (o + i) by omega]
  simpa using f1
theorem bi_window {ι : Emb} {o n r : Nat} {c : Array Value} {e : TypeId} {fr : Nat × Nat} {l : List IV} (hc : w.heap[r]? = some (.cells c e fr)) (hs : o + n ≤ c.size) (hl : l.length = n) (h : VRs ι l ((c.toList.drop o).take n)) : BI ι (.c l) r o w := by
  refine ⟨c, e, fr, hc, by omega, fun i v hv => ?_⟩
  obtain ⟨v', e1, e2⟩ := h.get hv
  have hi : i < n := by rw [← hl]; exact (List.getElem?_eq_some_iff.1 hv).1
  rw [List.getElem?_take, if_pos hi, List.getElem?_drop] at e1
  exact ⟨v', by simpa using e1, e2⟩
theorem cellsOf_get {b : Pos} {m : Nat} {l : List IV} (h : cellsOf (H.get b) = some (m, l)) : ∃ z, H.get b = some z := by
  cases q : H.get b with
  | none => rw [q] at h; cases h
  | some z => exact ⟨z, rfl⟩
theorem mapOf_get {b : Pos} {m : List IEnt} {l : Nat} (h : mapOf (H.get b) = some (m, l)) : ∃ z, H.get b = some z := by
  cases q : H.get b with
  | none => rw [q] at h; cases h
  | some z => exact ⟨z, rfl⟩
theorem Emb.le_bare {ι ι' : Emb} (h : ι.le ι') : ι.bare.le ι'.bare := h.bare

theorem ers_keys : ∀ {es : List IEnt} {es' : List MapEntry}, ERs ι es es' → VRs ι (es.map (·.key)) (es'.map (·.key)) ∧ VRs ι (es.map (·.val)) (es'.map (·.val))
  | _, _, .nil => ⟨.nil, .nil⟩
  | _, _, .cons _ _ _ _ hk hv _ t => ⟨.cons _ _ _ _ hk (ers_keys t).1, .cons _ _ _ _ hv (ers_keys t).2⟩

/-- FREEZING IS SOUND. -/
theorem frzF_sound : ∀ (n : Nat) (ι : Emb) (H : Hp) (v u : IV) (v' : Value) (H' : Hp), HR ι H w → VR ι v v' → frzF n H v = some (u, H') → FzOk P ι H w u v' H'
  | 0, _, _, _, _, _, _, _, _, e => by cases e
  | n + 1, ι, H, v, u, v', H', hH, hv, e => by
    have ih : ∀ (ι : Emb) (H : Hp) (v u : IV) (v' : Value) (H' : Hp), HR ι H w → VR ι v v' → frzF n H v = some (u, H') → FzOk P ι H w u v' H' := frzF_sound n
    have plain : ∀ {u : IV}, VR ι.bare u v' → FzOk P ι H w u v' H := fun h => ⟨ι, .refl hH, rfl, h⟩
    unfold frzF at e
    split at e
    · -- a pointer
      rename_i b o
      obtain ⟨L, hL, rfl⟩ := vr_p hv
      split at e
      · rename_i m l hm
        split at e
        · rename_i l' h' hl
          cases e
          have hcr := cells_br hH hm hL
          have hml : l.length = m := hcr.1
          obtain ⟨c, ec, fr, k1, k2, k3⟩ := cr_window (o := 0) (n := m) hcr (by omega)
          rw [List.drop_zero, List.take_of_length_le (by omega)] at k3
          obtain ⟨ι1, f1, f2, f3⟩ := frzL_sound ih hH k3 hl
          obtain ⟨s1, s2⟩ := frzL_same (frzF_same n) hl
          obtain ⟨z, hz⟩ := cellsOf_get (H := h') (b := b) (by rw [s1.cells]; exact hm)
          have hL1 : ι1 b = some L := f1.ext.1 _ _ hL
          have hfz := Fin.freeze f1.hr (y := .rc m l) (x := .c l') (sh := L.sh + 0) hz hL1 rfl (cells_br f1.hr (show h'.cells b = some (m, l) by unfold Hp.cells; rw [s1.cells]; exact hm) hL1) (bi_window k1 k2 (by omega) f3)
          exact ⟨_, f1.trans hfz, f2, .pi _ l' L.r L.sh o (Emb.add_im _ _ _ _) (List.prefix_refl _)⟩
        · cases e
      · cases e
    · -- a slice
      rename_i b o len c0 z
      cases cc : Nat.beq len 0 with
      | true =>
        rw [cc] at e; cases e
        have := Nat.eq_of_beq_eq_true cc
        subst this
        rcases vr_sl hv with ⟨L, c', _, _, _, _, rfl⟩ | ⟨ad, _, _, rfl⟩
        · exact plain (.sli0 _ _)
        · exact plain (.sli0 _ _)
      | false =>
        rw [cc] at e
        simp only [cond_false] at e
        split at e
        · rename_i m l hm
          obtain ⟨hle, e⟩ := cond_some e
          have hle := Nat.le_of_ble_eq_true hle
          split at e
          · rename_i l' h' hl
            cases e
            rcases vr_sl hv with ⟨L, c', hL, hn, _, hsz, rfl⟩ | ⟨ad, h0, _, rfl⟩
            · have hcr := cells_br hH hm hL
              obtain ⟨c, ec, fr, k1, k2, k3⟩ := cr_window hcr hle
              obtain ⟨ι1, f1, f2, f3⟩ := frzL_sound ih hH k3 hl
              obtain ⟨s1, s2⟩ := frzL_same (frzF_same n) hl
              obtain ⟨q, hq⟩ := cellsOf_get (H := h') (b := b) (by rw [s1.cells]; exact hm)
              have hL1 : ι1 b = some L := f1.ext.1 _ _ hL
              have hml : l.length = m := hcr.1
              have hl' : l'.length = len * z := by rw [s2, List.length_take, List.length_drop]; omega
              have hfz := Fin.freeze f1.hr (y := .rc m l) (x := .c l') (sh := L.sh + o) hq hL1 rfl (cells_br f1.hr (show h'.cells b = some (m, l) by unfold Hp.cells; rw [s1.cells]; exact hm) hL1) (bi_window k1 k2 hl' f3)
              refine ⟨_, f1.trans hfz, f2, ?_⟩
              have := VR.sli (ι := (ι1.add (.c l') L.r (L.sh + o)).bare) (chunks z len l') l' L.r (L.sh + o) 0 z c' (Emb.add_im _ _ _ _) (by rw [chunks_flatten z len l' hl', List.drop_zero]; exact List.prefix_refl _) (chunks_each z len l' hl') (by rw [chunks_length]; exact hn)
              rwa [chunks_length] at this
            · subst h0; cases cc
          · cases e
        · cases e
    · -- a map
      rename_i r
      obtain ⟨L, hL, rfl⟩ := vr_m hv
      split at e
      · rename_i es c hm
        split at e
        · rename_i ks h1 hl1
          split at e
          · rename_i vs h2 hl2
            cases e
            obtain ⟨es', g1, g2⟩ := map_sound hH hm hL
            obtain ⟨gk, gv⟩ := ers_keys g2
            obtain ⟨ι1, f1, f2, f3⟩ := frzL_sound ih hH gk hl1
            obtain ⟨ι2, m1, m2, m3⟩ := frzL_sound ih f1.hr (gv.mono f1.ext) hl2
            obtain ⟨s1, _⟩ := frzL_same (frzF_same n) hl1
            obtain ⟨s2, _⟩ := frzL_same (frzF_same n) hl2
            have hm2 : mapOf (h2.get r) = some (es, c) := by rw [(s1.trans s2).maps]; exact hm
            obtain ⟨q, hq⟩ := mapOf_get hm2
            have hL2 : ι2 r = some L := m1.ext.1 _ _ (f1.ext.1 _ _ hL)
            have hmr : MR ι2 es c L w := ⟨es', g1, g2.mono (f1.ext.trans m1.ext)⟩
            have hfz := Fin.freeze m1.hr (y := .rm es c) (x := .m ks vs) (sh := 0) hq hL2 rfl hmr ⟨es', c, g1, f3.mono m1.ext.bare, m3⟩
            exact ⟨_, (f1.trans m1).trans hfz, m2.trans f2, .mi ks vs L.r (Emb.add_im _ _ _ _)⟩
          · cases e
        · cases e
      · cases e
    · cases e; have := vr_sn hv; subst this; exact plain .slin
    · cases e; have := vr_mn hv; subst this; exact plain .min
    · split at e
      · rename_i l' h' hl
        cases e
        obtain ⟨lv, k1, rfl⟩ := vr_agg hv
        obtain ⟨ι1, f1, f2, f3⟩ := frzL_sound ih hH k1 hl
        exact ⟨ι1, f1, f2, .agg _ _ f3⟩
      · cases e
    · split at e
      · rename_i l' h' hl
        cases e
        obtain ⟨lv, k1, rfl⟩ := vr_tup hv
        obtain ⟨ι1, f1, f2, f3⟩ := frzL_sound ih hH k1 hl
        exact ⟨ι1, f1, f2, .tup _ _ f3⟩
      · cases e
    · split at e
      · rename_i l' h' hl
        cases e
        cases hv
        rename_i k hk caps k1
        obtain ⟨ι1, f1, f2, f3⟩ := frzL_sound ih hH k1 hl
        exact ⟨ι1, f1, f2, .f _ hk _ _ f3⟩
      · cases e
    · split at e
      · rename_i x h' hx
        cases e
        cases hv with
        | ic _ ht _ y hy =>
          obtain ⟨ι1, f1, f2, f3⟩ := ih _ _ _ _ _ _ hH hy hx
          exact ⟨ι1, f1, f2, .ic _ ht _ _ f3⟩
        | fb k hk l l' k1 =>
          obtain ⟨ι1, f1, f2, f3⟩ := ih _ _ _ _ _ _ hH (VR.tup l l' k1) hx
          cases f3 with
          | tup l2 _ f4 => exact ⟨ι1, f1, f2, .fb k hk _ _ f4⟩
      · cases e
    · rename_i n1 n2 n3 n4 n5 n6 n7 n8 n9
      cases e
      cases hv <;> first
        | exact absurd rfl (n2 _ _ _ _ _)
        | exact plain (.b _)
        | exact plain (.i _ _)
        | exact plain (.s _ _ ‹_›)
        | exact plain .pn
        | exact plain .fn
        | exact plain .inn
        | exact plain (.pi _ _ _ _ _ ‹_› ‹_›)
        | exact plain (.sli _ _ _ _ _ _ _ ‹_› ‹_› ‹_› ‹_›)
        | exact plain (.sli0 _ _)
        | exact plain .slin
        | exact plain (.mi _ _ _ ‹_›)
        | exact plain .min
        | (exfalso; simp_all; done)

theorem frz_sound {v u : IV} {v' : Value} {H' : Hp} (hH : HR ι H w) (hv : VR ι v v') (e : frz H v = some (u, H')) : FzOk P ι H w u v' H' := frzF_sound 40 ι H v u v' H' hH hv e
theorem frzs_sound {l us : List IV} {l' : List Value} {H' : Hp} (hH : HR ι H w) (hv : VRs ι l l') (e : frzs H l = some (us, H')) : FzsOk P ι H w us l' H' := frzL_sound (frzF_sound 40) hH hv e
theorem frz_same {v u : IV} {h h' : Hp} (e : frz h v = some (u, h')) : Same h h' := frzF_same 40 _ _ _ _ e
theorem frzs_same {l us : List IV} {h h' : Hp} (e : frzs h l = some (us, h')) : Same h h' ∧ us.length = l.length := frzL_same (frzF_same 40) e
end
end Go.Fg
/- The ideal machine: code whose order is not open. -/
namespace Go.Fg

/-! Names of blocks only grow. -/
theorem write_next {h h' : Hp} {b : Pos} {o n : Nat} {vs : List IV} (e : h.write b o n vs = some h') : h'.next = h.next := by
  unfold Hp.write at e
  split at e
  · obtain ⟨_, e⟩ := cond_some e
    cases e
    rfl
  · cases e

theorem growI_up {h h' : Hp} {b : Pos} {o len c w n : Nat} {old new : List IV} {v : IV} (e : growI h b o len c w n old new = some (v, h')) : h.next.num ≤ h'.next.num := by
  unfold growI at e
  split at e
  · obtain ⟨_, e⟩ := cond_some e
    cases e
    rw [Hp.next_new, Hp.next_kill, Pos.num_nxt]; omega
  · rename_i c
    cases q : Nat.ble (len + n) c with
    | true =>
      rw [q] at e
      have e : (match h.write b (o + len * w) (n * w) new with | some h' => some (IV.sl b o (len + n) (c + 1) w, h') | none => none) = some (v, h') := e
      split at e
      · rename_i h2 hw; cases e; rw [write_next hw]; omega
      · cases e
    | false =>
      rw [q] at e
      cases e
      rw [Hp.next_new, Pos.num_nxt]; omega

theorem appendI_up {h h' : Hp} {w bytes n : Nat} {s v : IV} {new : List IV} (e : appendI h w bytes s n new = some (v, h')) : h.next.num ≤ h'.next.num := by
  unfold appendI at e
  split at e
  · cases q : Nat.beq n 0 with
    | true => rw [q] at e; cases e; omega
    | false =>
      rw [q] at e
      obtain ⟨_, e⟩ := cond_some e
      cases e
      rw [Hp.next_new, Pos.num_nxt]; omega
  · obtain ⟨_, e⟩ := cond_some e
    cases q : Nat.beq n 0 with
    | true => rw [q] at e; cases e; omega
    | false =>
      rw [q] at e
      obtain ⟨_, e⟩ := cond_some e
      split at e
      · cases e
      · exact growI_up e
  · cases e

theorem ef_up {ef : Ef} {xs : List IV} {h h' : Hp} {v : IV} (e : ef.ev xs h = some (v, h')) : h.next.num ≤ h'.next.num := by
  cases ef with
  | st n =>
    have e : efSt n h xs = some (v, h') := e
    unfold efSt at e
    split at e
    · obtain ⟨_, e⟩ := cond_some e
      split at e
      · rename_i h2 hw; cases e; rw [write_next hw]; omega
      · cases e
    · cases e
  | app w bytes =>
    have e : efApp w bytes h xs = some (v, h') := e
    unfold efApp at e
    split at e
    · split at e
      · split at e
        · obtain ⟨_, e⟩ := cond_some e
          exact appendI_up e
        · cases e
      · cases e
    · cases e
  | appz z w bytes =>
    have e : efAppz z w bytes h xs = some (v, h') := e
    unfold efAppz at e
    split at e
    · obtain ⟨_, e⟩ := cond_some e
      exact appendI_up e
    · cases e
  | copy w =>
    have e : efCopy w h xs = some (v, h') := e
    unfold efCopy at e
    split at e
    · split at e
      · split at e
        · obtain ⟨_, e⟩ := cond_some e
          unfold copyTo at e
          split at e
          · obtain ⟨_, e⟩ := cond_some e
            rename_i n m _ _ _ _ _ _ _ _ _ _ _ _ _ _ _ _ _
            revert e
            generalize Nat.beq _ 0 = q
            intro e
            cases q with
            | true => cases e; omega
            | false =>
              dsimp only [cond] at e
              split at e
              · rename_i h2 hw; cases e; rw [write_next hw]; omega
              · cases e
          · cases e; omega
          · cases e
        · cases e
      · cases e
    · cases e
  | clear z =>
    have e : efClear z h xs = some (v, h') := e
    unfold efClear at e
    split at e
    · cases e; omega
    · obtain ⟨_, e⟩ := cond_some e
      revert e
      generalize Nat.beq _ 0 = q
      intro e
      cases q with
      | true => cases e; omega
      | false =>
        dsimp only [cond] at e
        split at e
        · rename_i h2 hw; cases e; rw [write_next hw]; omega
        · cases e
    · cases e
  | upd ag ks =>
    have e : efUpd ag ks h xs = some (v, h') := e
    unfold efUpd at e
    split at e
    · split at e
      · split at e
        · cases e; rw [Hp.next_set]; omega
        · cases e; rw [Hp.next_set]; omega
        · cases e
      · cases e
    · cases e
  | ment ag ks z =>
    have e : efMent ag ks z h xs = some (v, h') := e
    unfold efMent at e
    split at e
    · split at e
      · split at e
        · cases e; omega
        · cases e; rw [Hp.next_set]; omega
        · cases e
      · cases e
    · cases e
  | esto =>
    have e : efEsto h xs = some (v, h') := e
    unfold efEsto at e
    split at e
    · split at e
      · split at e
        · cases e; rw [Hp.next_set]; omega
        · cases e
      · cases e
    · cases e

/-- What is asked of the calls. -/
def CUp (cf : CallF) : Prop := ∀ g args h v h', cf g args h = some (v, h') → h.next.num ≤ h'.next.num
/-- Names from one memory's next on to the other's are free. -/
def Free (ι : Emb) (H H' : Hp) : Prop := ∀ b : Pos, H.next.num ≤ b.num → b.num < H'.next.num → ι b = none
def CSim (P : Program) (cf : CallF) : Prop := ∀ n args h v h', n < 1000000 → cf (pos n) args h = some (v, h') →
  (∃ fn, P.funcs[n]? = some fn ∧ fn.body.isNone = false ∧ (fn.name == "runtime.NumGoroutine") = false) ∧
  ∀ (ι : Emb) (w : World) (args' : Array Value), VRs ι args args'.toList → HR ι h w → Free ι h h' →
    Calls P n args' w fun e w' => ∃ v' ι', e = .returned v' ∧ VR ι' v v' ∧ Fin ι h w ι' h' w'

theorem exOp_up {cf : CallF} (hcf : CUp cf) {o : Io} {τ : Fm} {h h' : Hp} {v : IV} (e : exOp cf o τ h = some (v, h')) : h.next.num ≤ h'.next.num := by
  cases o with
  | rd r xs =>
    have e : exRd r (evs τ xs) h = some (v, h') := e
    unfold exRd at e
    split at e
    · cases e; omega
    · cases e
  | al a xs =>
    have e : exAl a (evs τ xs) h = some (v, h') := e
    unfold exAl at e
    split at e
    · cases e; rw [Hp.next_new, Pos.num_nxt]; omega
    · cases e
  | ef f xs => exact ef_up e
  | call f xs =>
    have e : exCall cf (f.ev τ) (evs τ xs) h = some (v, h') := e
    unfold exCall at e
    split at e
    · exact hcf _ _ _ _ _ e
    · cases e
  | bad => cases e

theorem frzOds_next : ∀ {l : List Od} {h : Hp} {τ τ' : Fm} {h' : Hp}, frzOds h τ l = some (τ', h') → h'.next = h.next
  | [], h, τ, τ', h', e => by cases e; rfl
  | .c _ :: r, h, τ, τ', h', e => frzOds_next (l := r) e
  | .t n :: r, h, τ, τ', h', e => by
    unfold frzOds at e
    obtain ⟨_, e⟩ := cond_some e
    split at e
    · rename_i u h1 e1
      rw [frzOds_next e, (frz_same e1).next]
    · cases e
theorem exOpz_up {cf : CallF} (hcf : CUp cf) {o : IOper} {τ : Fm} {h h' : Hp} {v : IV} (e : exOpz cf o τ h = some (v, h')) : h.next.num ≤ h'.next.num := by
  unfold exOpz at e
  cases c : o.fz with
  | false => rw [c] at e; exact exOp_up hcf e
  | true =>
    rw [c] at e
    have e : exFz cf o.op τ h = some (v, h') := e
    unfold exFz at e
    split at e
    · rename_i τ' h1 e1
      rw [← frzOds_next e1]
      exact exOp_up hcf e
    · cases e

def Out.ge (n : Nat) : Out → Prop
  | .nrm _ h | .ret _ h | .exit _ _ h => n ≤ h.next.num
  | .fail => True
theorem Out.ge_mono {m n : Nat} (hmn : m ≤ n) {o : Out} (h : o.ge n) : o.ge m := by
  cases o <;> first | trivial | exact Nat.le_trans hmn h

theorem exOps_up {cf : CallF} (hcf : CUp cf) : ∀ (l : List IOper) (τ : Fm) (h : Hp), (exOps cf l τ h).ge h.next.num
  | [], τ, h => Nat.le_refl _
  | o :: r, τ, h => by
    unfold exOps
    cases wantedI o.guard τ with
    | true =>
      show (opThen (exOps cf r) τ o.dst (exOpz cf o τ h)).ge _
      cases q : exOpz cf o τ h with
      | none => trivial
      | some x =>
        obtain ⟨v, h'⟩ := x
        exact Out.ge_mono (exOpz_up hcf q) (exOps_up hcf r _ _)
    | false => exact exOps_up hcf r _ _

theorem exDraw_nil (cf : CallF) (n : Nat) (d : DSt) (τ : Fm) (h : Hp) : exDraw cf [] n d τ h = .nrm τ h := rfl
theorem exDraw_cons (cf : CallF) (o : IOper) (r : List IOper) (n : Nat) (d : DSt) (τ : Fm) (h : Hp) :
    exDraw cf (o :: r) n d τ h = cond (wantedI o.guard τ) (drawThen (exDraw cf r (n + 1)) n o d τ h (exOp cf o.op τ h)) (exDraw cf r (n + 1) d (putd τ o.dst undefd) h) := rfl

theorem exDraw_up {cf : CallF} (hcf : CUp cf) : ∀ (l : List IOper) (n : Nat) (d : DSt) (τ : Fm) (h : Hp), (exDraw cf l n d τ h).ge h.next.num
  | [], n, d, τ, h => Nat.le_refl _
  | o :: r, n, d, τ, h => by
    rw [exDraw_cons]
    cases wantedI o.guard τ with
    | true =>
      show (drawThen (exDraw cf r (n + 1)) n o d τ h (exOp cf o.op τ h)).ge _
      cases q : exOp cf o.op τ h with
      | none => trivial
      | some x =>
        obtain ⟨v, h'⟩ := x
        unfold drawThen
        simp only []
        split
        · exact Out.ge_mono (exOp_up hcf q) (exDraw_up hcf r _ _ _ _)
        · trivial
    | false => exact exDraw_up hcf r _ _ _ _

theorem loopN_zero (body : Fm → Hp → Out) (τ : Fm) (h : Hp) : loopN body 0 τ h = .fail := rfl
theorem loopN_succ (body : Fm → Hp → Out) (n : Nat) (τ : Fm) (h : Hp) : loopN body (n + 1) τ h = thenI (loopN body n) (body τ h) := rfl

theorem thenI_up {k : Fm → Hp → Out} (hk : ∀ τ h, (k τ h).ge h.next.num) {o : Out} {n : Nat} (h : o.ge n) : (thenI k o).ge n := by
  cases o with
  | nrm τ h' => exact Out.ge_mono h (hk τ h')
  | ret => exact h
  | exit => exact h
  | fail => trivial

theorem loopN_up {body : Fm → Hp → Out} (hb : ∀ τ h, (body τ h).ge h.next.num) : ∀ n τ h, (loopN body n τ h).ge h.next.num
  | 0, _, _ => trivial
  | n + 1, τ, h => by rw [loopN_succ]; exact thenI_up (loopN_up hb n) (hb τ h)

theorem sem_up {N : Nat} {cf : CallF} (hcf : CUp cf) : ∀ (c : ICode) (τ : Fm) (h : Hp), (sem N cf c τ h).ge h.next.num
  | .skip, τ, h => Nat.le_refl _
  | .ops l, τ, h => exOps_up hcf l τ h
  | .draw l, τ, h => exDraw_up hcf l _ _ τ h
  | .seq a b, τ, h => thenI_up (sem_up hcf b) (sem_up hcf a τ h)
  | .cond o a b, τ, h => by
    show (condI (sem N cf a τ h) (sem N cf b τ h) (o.ev τ)).ge _
    unfold condI
    split
    · exact sem_up hcf a τ h
    · exact sem_up hcf b τ h
    · trivial
  | .block id b, τ, h => by
    show (blockI id (sem N cf b τ h)).ge _
    have := sem_up (N := N) hcf b τ h
    generalize sem N cf b τ h = o at this
    cases o with
    | nrm => exact this
    | ret => exact this
    | fail => trivial
    | exit k τ' h' =>
      show (cond (Nat.beq k id) (Out.nrm τ' h') (Out.exit k τ' h')).ge _
      cases Nat.beq k id <;> exact this
  | .loop b, τ, h => loopN_up (sem_up hcf b) N τ h
  | .exit id, τ, h => Nat.le_refl _
  | .ret, τ, h => Nat.le_refl _
  | .bad, τ, h => trivial
end Go.Fg
/- The ideal machine: code whose order is not open, against the model. -/
namespace Go.Fg
variable {z : Oper → Bool} {Z : Nat → Oper → Bool}

section
variable {P : Program} {ι : Emb} {τ : Fm} {a : Act} {H : Hp} {w : World} {cf : CallF}

theorem Free.left {H H1 H2 : Hp} (h : Free ι H H2) (h1 : H1.next.num ≤ H2.next.num) : Free ι H H1 := fun b k1 k2 => h b k1 (Nat.lt_of_lt_of_le k2 h1)
theorem Free.right {ι' : Emb} {H H1 H2 : Hp} {w w' : World} (h : Free ι H H2) (f : Fin ι H w ι' H1 w') : Free ι' H1 H2 := fun b k1 k2 => by
  cases q : ι' b with
  | none => rfl
  | some L =>
    have h0 := h b (Nat.le_trans f.up k1) k2
    have := f.fresh b h0 (by simp [q])
    omega

theorem run_callFunc {n : Nat} {fn : Func} {args : Array Value} (h1 : P.funcs[n]? = some fn) (h2 : fn.body.isNone = false) (h3 : (fn.name == "runtime.NumGoroutine") = false) : (callFunc n args).run P w = .ok (.enter n args) w := by
  have h2' : fn.body ≠ none := by intro h; rw [h] at h2; cases h2
  have h3' : fn.name ≠ "runtime.NumGoroutine" := by simpa using h3
  unfold callFunc
  simp [h1, h2', h3']

/-- One operation. -/
theorem op_step (hcf : CSim P cf) (hT : TR ι τ a) (hH : HR ι H w) {o : Oper} {io : Io} {v : IV} {H' : Hp} (hc : compOp P o = some io) (hv : exOp cf io τ H = some (v, H')) (hfree : Free ι H H')
    {K : Act → World → Prop} {Q : Exit → Act → World → Prop} (hK : ∀ v' w' ι', VR ι' v v' → Fin ι H w ι' H' w' → K (a.put o.dst v') w') : o.wp P a w K Q := by
  cases io with
  | rd r xs =>
    have hv : exRd r (evs τ xs) H = some (v, H') := hv
    unfold exRd at hv
    split at hv
    · rename_i v0 hr
      cases hv
      obtain ⟨v', k1, k2⟩ := rd_sound (P := P) hT hH hc hr
      unfold Oper.wp
      rw [k1]
      exact hK v' w ι k2 (.refl hH)
    · cases hv
  | al al xs =>
    have hv : exAl al (evs τ xs) H = some (v, H') := hv
    unfold exAl at hv
    split at hv
    · rename_i x v0 hr
      cases hv
      obtain ⟨v', w', L, ob, k1, k2, k3, k4, k5⟩ := al_sound (P := P) (w := w) hT hc hr
      have hfr : ι H.next = none := hfree _ (Nat.le_refl _) (by rw [Hp.next_new, Pos.num_nxt]; omega)
      obtain ⟨k6, k7⟩ := k5 (ι.upd H.next L) (Emb.le_upd L hfr) (Emb.upd_eq _ _ _)
      unfold Oper.wp
      rw [k1]
      exact hK v' w' _ k6 (Fin.alloc hH hfr k2 k4 k7 k3)
    · cases hv
  | ef ef xs =>
    obtain ⟨v', w', ι', k1, k2, k3⟩ := ef_sound (P := P) hT hH hc (fun h => hfree _ (Nat.le_refl _) h) hv
    unfold Oper.wp
    rcases k1 with k1 | ⟨k1, rfl⟩
    · rw [k1]; exact hK v' w' ι' k2 k3
    · rw [k1]; exact hK undef w' ι' k2 k3
  | call f xs =>
    have hv : exCall cf (f.ev τ) (evs τ xs) H = some (v, H') := hv
    unfold exCall at hv
    split at hv
    · rename_i g caps hg
      obtain ⟨c, fo, ho, hcal, hf, hxs⟩ := comp_call hc
      have r1 := od_sound hT hf
      rw [hg] at r1
      have r2 := ods_sound hT hxs
      generalize hfo : a.eval fo = fv at r1
      cases r1
      rename_i n hn caps' hcaps
      obtain ⟨⟨fn, p1, p2, p3⟩, p4⟩ := hcf n _ _ _ _ hn hv
      have hrun : (execOp a.eval o).run P w = .ok (.enter n (c.args.map a.eval ++ caps')) w := by
        unfold execOp
        simp [ho, resolve, hcal, hfo, Deferred.ofValue, invoke, run_callFunc p1 p2 p3]
      unfold Oper.wp
      rw [hrun, Oper.upon_enter]
      refine (p4 ι w _ ?_ hH hfree).mono ?_
      · rw [Array.toList_append, Array.toList_map]
        exact r2.append hcaps
      · rintro e w' ⟨v', ι', rfl, k1, k2⟩
        exact hK v' w' ι' k1 k2
    · cases hv
  | bad => cases hv where
  comp_call {o : Oper} {f : Od} {xs : List Od} (hc : compOp P o = some (.call f xs)) : ∃ c fo, o.op = .call c ∧ c.callee = .value fo ∧ od fo = some f ∧ ods c.args.toList = some xs := by
    unfold compOp at hc
    cases hop : o.op <;> rw [hop] at hc <;> simp only [] at hc
    case call c =>
      unfold compCall at hc
      split at hc
      · rename_i fo hcal
        split at hc
        · rename_i g l hg hl
          cases hc
          exact ⟨c, fo, rfl, hcal, hg, hl⟩
        · cases hc
      · cases hc
      · exfalso
        revert hc
        repeat' split
        all_goals first
          | (intro h; cases h; done)
          | (intro h; obtain ⟨l, hl, e⟩ := rds_inv h; cases e; done)
          | (intro h; obtain ⟨l, hl, e⟩ := rd1_inv h; cases e; done)
          | (intro h; obtain ⟨l, hl, e⟩ := efs_inv h; cases e; done)
    case binOp op t x y yt =>
      exfalso
      unfold eqOp at hc
      revert hc
      repeat' split
      all_goals first
        | (intro h; cases h; done)
        | (intro h; obtain ⟨l, hl, e⟩ := rds_inv h; cases e; done)
        | (intro h; obtain ⟨l, hl, e⟩ := rd1_inv h; cases e; done)
    case makeMap t r =>
      cases r with
      | none => cases hc
      | some _ => cases hc
    case slice t x lo hi mx =>
      exfalso
      cases mx with
      | some _ => cases hc
      | none =>
        simp only [] at hc
        split at hc
        · cases hc
        · split at hc
          · split at hc <;> cases hc
          · cases hc
          · cases hc
    all_goals (exfalso; revert hc; repeat' split)
    all_goals first
      | (intro h; cases h; done)
      | (intro h; obtain ⟨l, hl, e⟩ := rds_inv h; cases e; done)
      | (intro h; obtain ⟨l, hl, e⟩ := rd1_inv h; cases e; done)
      | (intro h; obtain ⟨l, hl, e⟩ := als_inv h; cases e; done)
      | (intro h; obtain ⟨l, hl, e⟩ := efs_inv h; cases e; done)

theorem TR.frz (hH : HR ι H w) (hT : TR ι τ a) {t : Nat} (ht : t < 1000000) {u : IV} {H' : Hp} (e : Go.Fg.frz H (Fm.at τ (pos t)) = some (u, H')) : ∃ ι', Fin ι H w ι' H' w ∧ ι'.m = ι.m ∧ TR ι' (putd τ (some (pos t)) u) a := by
  obtain ⟨ι', f1, f2, f3⟩ := frz_sound (P := default) hH (hT t ht) e
  refine ⟨ι', f1, f2, fun s hs => ?_⟩
  by_cases c : s = t
  · subst c; rw [Fm.at_putd_eq]; exact f3.mono ι'.bare_le
  · rw [Fm.at_putd_ne _ _ (fun h => c (pos_inj hs ht h))]; exact (hT s hs).mono f1.ext
theorem frzOds_sound : ∀ {l : List Od} {ι : Emb} {H H' : Hp} {τ τ' : Fm}, HR ι H w → TR ι τ a → frzOds H τ l = some (τ', H') → ∃ ι', Fin ι H w ι' H' w ∧ ι'.m = ι.m ∧ TR ι' τ' a
  | [], ι, H, H', τ, τ', hH, hT, e => by cases e; exact ⟨ι, .refl hH, rfl, hT⟩
  | .c _ :: r, ι, H, H', τ, τ', hH, hT, e => frzOds_sound (l := r) hH hT e
  | .t n :: r, ι, H, H', τ, τ', hH, hT, e => by
    unfold frzOds at e
    obtain ⟨c, e⟩ := cond_some e
    have c := Nat.le_of_ble_eq_true c
    split at e
    · rename_i u h1 e1
      have hn : n = pos (n.num - 1) := Pos.num_inj (by have := n.num_pos; rw [num_pos (by omega)]; omega)
      rw [hn] at e1 e
      obtain ⟨ι1, f1, f2, f3⟩ := TR.frz hH hT (by have := n.num_pos; omega) e1
      obtain ⟨ι2, g1, g2, g3⟩ := frzOds_sound f1.hr f3 e
      exact ⟨ι2, f1.trans g1, g2.trans f2, g3⟩
    · cases e

theorem exOpz_bad {io : IOper} (h : io.op = .bad) : exOpz cf io τ H = none := by
  unfold exOpz
  cases io.fz with
  | false => rw [h]; rfl
  | true => rw [h]; rfl

/-- One operation, what it stores, makes or appends frozen before. -/
theorem op_stepz (hcf : CSim P cf) (hT : TR ι τ a) (hH : HR ι H w) {o : Oper} {io : IOper} {v : IV} {H' : Hp} (hc : compOp P o = some io.op) (hv : exOpz cf io τ H = some (v, H')) (hfree : Free ι H H')
    {K : Act → World → Prop} {Q : Exit → Act → World → Prop} (hK : ∀ v' w' ι', VR ι' v v' → Fin ι H w ι' H' w' → K (a.put o.dst v') w') : o.wp P a w K Q := by
  unfold exOpz at hv
  cases c : io.fz with
  | false => rw [c] at hv; exact op_step hcf hT hH hc hv hfree hK
  | true =>
    rw [c] at hv
    have hv : exFz cf io.op τ H = some (v, H') := hv
    unfold exFz at hv
    split at hv
    · rename_i τ' h1 e1
      obtain ⟨ι1, f1, f2, f3⟩ := frzOds_sound hH hT e1
      have hn := frzOds_next e1
      refine op_step hcf f3 f1.hr hc hv (fun b k1 k2 => ?_) fun v' w' ι' k1 k2 => hK v' w' ι' k1 (f1.trans k2)
      rw [f2]
      exact hfree b (by rwa [hn] at k1) k2
    · cases hv

/-- Whether an operation is run. -/
theorem wanted_sound (hT : TR ι τ a) {ops : Array Oper} {o : Oper} {g : Option (Pos × Bool)} (hg : guardOf ops o.guard = some g) : Region.wanted o (yielded ops a.tmps) = wantedI g τ := by
  unfold guardOf at hg
  unfold Region.wanted
  split at hg
  · rename_i e
    cases hg
    rw [e]
    rfl
  · rename_i j wt e
    rw [e]
    split at hg
    · rename_i oj hj
      split at hg
      · rename_i t ht
        split at hg
        · rename_i hlt
          cases hg
          have hlt : t < 1000000 := Nat.le_of_ble_eq_true hlt
          have := hT t hlt
          show (yielded ops a.tmps j == some wt) = wantV wt (Fm.at τ (pos t))
          unfold yielded
          rw [hj]
          simp only [Option.bind_some, ht]
          by_cases hts : t < a.tmps.size
          · rw [Array.getD_eq_getD_getElem?, Array.getElem?_eq_getElem hts] at this
            rw [Array.getElem?_eq_getElem hts]
            simp only [Option.getD_some] at this
            generalize Fm.at τ (pos t) = iv at this
            generalize a.tmps[t] = rv at this
            cases this <;> first | rfl | (simp [wantV]; done)
          · rw [Array.getD_eq_getD_getElem?, Array.getElem?_eq_none (Nat.le_of_not_lt hts)] at this
            rw [Array.getElem?_eq_none (Nat.le_of_not_lt hts)]
            simp only [Option.getD_none] at this
            generalize Fm.at τ (pos t) = iv at this
            generalize hu : undef = rv at this
            cases this <;> first | rfl | (exfalso; cases hu; done) | (simp [wantV]; done)
        · cases hg
      · cases hg
    · cases hg

theorem St.fin {nt : Nat} {ι' : Emb} {H' : Hp} {w' : World} (h : St nt ι τ H a w) (f : Fin ι H w ι' H' w') {dst : Option Nat} (hd : ∀ d, dst = some d → d < nt) (hnt : nt ≤ 100000) {v : IV} {v' : Value} (hv : VR ι' v v') :
    St nt ι' (putd τ (dst.map pos) v) H' (a.put dst v') w' where
  tr := by
    cases dst with
    | none => exact h.tr.mono f.ext
    | some d =>
      have := hd d rfl
      have hs := h.size
      exact (h.tr.mono f.ext).put (by omega) (by omega) hv
  hr := f.hr
  size := by
    cases dst with
    | none => exact h.size
    | some d => simpa [Act.put] using h.size
  def_ := by
    cases dst with
    | none => exact h.def_
    | some d => simpa [Act.put] using h.def_

/-- What an operation is made of. -/
theorem compOps_cons {z : Oper → Bool} {nt : Nat} {ops : Array Oper} {o : Oper} {r : List Oper} {bs : List Nat} : ∃ io, compOps P z nt ops (o :: r) bs = io :: compOps P z nt ops r bs.tail ∧
    ((io.guard = none ∧ io.op = .bad) ∨ (guardOf ops o.guard = some io.guard ∧ io.dst = o.dst.map pos ∧ (∀ d, o.dst = some d → d < nt) ∧ io.op = (compOp P o).getD .bad)) := by
  refine ⟨_, rfl, ?_⟩
  split
  · rename_i g hg
    split
    · rename_i d hd
      split
      · rename_i hlt
        have hlt : d < nt := Nat.le_of_ble_eq_true hlt
        exact .inr ⟨hg, by rw [hd]; rfl, fun d' h' => by rw [hd] at h'; cases h'; exact hlt, rfl⟩
      · exact .inl ⟨rfl, rfl⟩
    · rename_i hd
      exact .inr ⟨hg, by rw [hd]; rfl, (fun d' h' => by rw [hd] at h'; cases h'), rfl⟩
  · exact .inl ⟨rfl, rfl⟩

/-- How a piece of code comes out. -/
def Lands (nt : Nat) (ι : Emb) (H : Hp) (w : World) : Out → Exit → Act → World → Prop
  | .nrm τ' H', e, a', w' => e = .normal ∧ ∃ ι', St nt ι' τ' H' a' w' ∧ Fin ι H w ι' H' w'
  | .ret τ' H', e, a', w' => e = .ret ∧ ∃ ι', St nt ι' τ' H' a' w' ∧ Fin ι H w ι' H' w'
  | .exit id τ' H', e, a', w' => e = .exit id ∧ ∃ ι', St nt ι' τ' H' a' w' ∧ Fin ι H w ι' H' w'
  | .fail, _, _, _ => False
def FreeO (ι : Emb) (H : Hp) : Out → Prop
  | .nrm _ H' | .ret _ H' | .exit _ _ H' => Free ι H H'
  | .fail => True

theorem Lands.before {nt : Nat} {ι' : Emb} {H' : Hp} {w' : World} (f : Fin ι H w ι' H' w') {out : Out} {e : Exit} {a2 : Act} {w2 : World} (h : Lands nt ι' H' w' out e a2 w2) : Lands nt ι H w out e a2 w2 := by
  cases out with
  | fail => exact h
  | nrm => obtain ⟨h1, ι2, h2, h3⟩ := h; exact ⟨h1, ι2, h2, f.trans h3⟩
  | ret => obtain ⟨h1, ι2, h2, h3⟩ := h; exact ⟨h1, ι2, h2, f.trans h3⟩
  | exit => obtain ⟨h1, ι2, h2, h3⟩ := h; exact ⟨h1, ι2, h2, f.trans h3⟩
theorem FreeO.right {ι' : Emb} {H' : Hp} {w' : World} {out : Out} (h : FreeO ι H out) (f : Fin ι H w ι' H' w') : FreeO ι' H' out := by
  cases out <;> first | trivial | exact Free.right h f
theorem FreeO.left {H' : Hp} {out : Out} (h : FreeO ι H out) (hg : out.ge H'.next.num) (hf : out ≠ .fail) : Free ι H H' := by
  cases out <;> first | exact absurd rfl hf | exact Free.left h hg

/-- Operations in their order. -/
theorem ops_sound (hcf : CSim P cf) (hup : CUp cf) {nt : Nat} (hnt : nt ≤ 100000) {ops : Array Oper} {Q : Exit → Act → World → Prop} : ∀ (l : List Oper) (k : Nat) (bs : List Nat) {ι : Emb} {τ : Fm} {H : Hp} {a : Act} {w : World} {out : Out},
    (∀ j, l[j]? = ops[k + j]?) → St nt ι τ H a w → exOps cf (compOps P z nt ops l bs) τ H = out → out ≠ .fail → FreeO ι H out → (∀ a' w', Lands nt ι H w out .normal a' w' → Q .normal a' w') → wpOps P ops Q (List.range' k l.length) a w
  | [], k, bs, ι, τ, H, a, w, out, hl, hs, ho, hf, hfr, hQ => by
    cases ho
    exact hQ a w ⟨rfl, ι, hs, .refl hs.hr⟩
  | o :: r, k, bs, ι, τ, H, a, w, out, hl, hs, ho, hf, hfr, hQ => by
    obtain ⟨io, e1, e2⟩ := compOps_cons (P := P) (nt := nt) (ops := ops) (o := o) (r := r) (bs := bs)
    rw [e1] at ho
    unfold exOps at ho
    have hk : ops[k]? = some o := by simpa using (hl 0).symm
    have hl' : ∀ j, r[j]? = ops[k + 1 + j]? := fun j => by
      have := hl (j + 1)
      simpa [Nat.add_assoc, Nat.add_comm 1 j] using this
    show wpOps P ops Q (k :: List.range' (k + 1) r.length) a w
    unfold wpOps
    rw [hk]
    simp only []
    rcases e2 with ⟨e2, e3⟩ | ⟨g1, g2, g3, g4⟩
    · rw [e2, exOpz_bad e3] at ho
      exact absurd ho.symm hf
    · rw [wanted_sound hs.tr g1]
      cases hw : wantedI io.guard τ with
      | true =>
        rw [hw] at ho
        have ho : opThen (exOps cf (compOps P z nt ops r bs.tail)) τ io.dst (exOpz cf io τ H) = out := ho
        cases hx : exOpz cf io τ H with
        | none => rw [hx] at ho; exact absurd ho.symm hf
        | some x =>
          obtain ⟨v, H1⟩ := x
          rw [hx] at ho
          have ho : exOps cf (compOps P z nt ops r bs.tail) (putd τ io.dst v) H1 = out := ho
          have hge : out.ge H1.next.num := by rw [← ho]; exact exOps_up hup _ _ _
          have hfree := hfr.left hge hf
          have hc : compOp P o = some io.op := by
            cases hco : compOp P o with
            | none => rw [hco] at g4; rw [exOpz_bad g4] at hx; cases hx
            | some q => rw [hco] at g4; rw [g4]; rfl
          simp only [if_true]
          refine .inl (op_stepz hcf hs.tr hs.hr hc hx hfree fun v' w' ι' k1 k2 => ?_)
          have hs' := hs.fin k2 g3 hnt k1
          rw [← g2] at hs'
          exact ops_sound hcf hup hnt r (k + 1) bs.tail hl' hs' ho hf (hfr.right k2) fun a2 w2 hL => hQ a2 w2 (hL.before k2)
      | false =>
        rw [hw] at ho
        have ho : exOps cf (compOps P z nt ops r bs.tail) (putd τ io.dst undefd) H = out := ho
        simp only [Bool.false_eq_true, if_false]
        have hs' := hs.fin (.refl hs.hr) g3 hnt (vr_undef ι)
        rw [← g2] at hs'
        exact ops_sound hcf hup hnt r (k + 1) bs.tail hl' hs' ho hf hfr hQ
end
end Go.Fg
/- The ideal machine: code, functions, calls. -/
namespace Go.Fg
variable {z : Oper → Bool} {Z : Nat → Oper → Bool}

section
variable {P : Program} {ι : Emb} {τ : Fm} {a : Act} {H : Hp} {w : World} {cf : CallF}

/-- What is asked of regions whose order is open. -/
def DrawSound (P : Program) (cf : CallF) : Prop := ∀ (nt id : Nat) (ops : Array Oper) (ι : Emb) (τ : Fm) (H : Hp) (a : Act) (w : World) (out : Out), nt ≤ 100000 →
  drawOk ops.toList (compOps P (fun _ => false) nt ops ops.toList (Region.before ops).toList) = true → St nt ι τ H a w →
  exDraw cf (compOps P (fun _ => false) nt ops ops.toList (Region.before ops).toList) 0 ⟨[], []⟩ τ H = out → out ≠ .fail → FreeO ι H out →
  (Code.region id ops true).wp P (Lands nt ι H w out) a w

theorem seq_sound {nt : Nat} {x : Code} {Q : Exit → Act → World → Prop} {oa : Out} {k : Fm → Hp → Out} (hk : ∀ τ h, (k τ h).ge h.next.num) {out : Out} (ho : thenI k oa = out) (hf : out ≠ .fail) (hfr : FreeO ι H out) (hoa : oa.ge H.next.num)
    (hx : oa ≠ .fail → FreeO ι H oa → x.wp P (Lands nt ι H w oa) a w) (hQ : ∀ e a' w', e ≠ .normal → Lands nt ι H w out e a' w' → Q e a' w') {K : Act → World → Prop}
    (hK : ∀ τ1 H1 ι1 a1 w1, oa = .nrm τ1 H1 → St nt ι1 τ1 H1 a1 w1 → Fin ι H w ι1 H1 w1 → FreeO ι1 H1 out → k τ1 H1 = out → K a1 w1) : x.wp P (Exit.then K Q) a w := by
  cases oa with
  | fail => exact absurd ho.symm hf
  | nrm τ1 H1 =>
    have ho : k τ1 H1 = out := ho
    have hge : out.ge H1.next.num := by rw [← ho]; exact hk _ _
    refine wp_mono (hx (by simp) (hfr.left hge hf)) ?_
    rintro e a1 w1 ⟨rfl, ι1, h1, h2⟩
    exact hK τ1 H1 ι1 a1 w1 rfl h1 h2 (hfr.right h2) ho
  | ret τ1 H1 =>
    cases ho
    refine wp_mono (hx (by simp) hfr) ?_
    rintro e a1 w1 ⟨rfl, h⟩
    exact hQ _ a1 w1 (by simp) ⟨rfl, h⟩
  | exit id τ1 H1 =>
    cases ho
    refine wp_mono (hx (by simp) hfr) ?_
    rintro e a1 w1 ⟨rfl, h⟩
    exact hQ _ a1 w1 (by simp) ⟨rfl, h⟩

theorem rounds_sound {nt : Nat} {x : Code} {body : Fm → Hp → Out} (hb : ∀ τ h, (body τ h).ge h.next.num)
    (hx : ∀ {ι : Emb} {τ : Fm} {H : Hp} {a : Act} {w : World}, St nt ι τ H a w → body τ H ≠ .fail → FreeO ι H (body τ H) → x.wp P (Lands nt ι H w (body τ H)) a w) {Q : Exit → Act → World → Prop} {ι0 : Emb} {H0 : Hp} {w0 : World} {out : Out}
    (hQ : ∀ e a' w', Lands nt ι0 H0 w0 out e a' w' → Q e a' w') :
    ∀ (n : Nat) {ι : Emb} {τ : Fm} {H : Hp} {a : Act} {w : World}, loopN body n τ H = out → out ≠ .fail → St nt ι τ H a w → FreeO ι H out → Fin ι0 H0 w0 ι H w → Code.rounds P x Q n a w
  | 0, ι, τ, H, a, w, ho, hf, hs, hfr, h0 => absurd ho.symm hf
  | n + 1, ι, τ, H, a, w, ho, hf, hs, hfr, h0 => by
    rw [rounds_succ]
    rw [loopN_succ] at ho
    exact seq_sound (loopN_up hb n) ho hf hfr (hb _ _) (hx hs) (fun e a' w' _ h => hQ e a' w' (h.before h0))
      (fun τ1 H1 ι1 a1 w1 _ h1 h2 h3 h4 => rounds_sound hb hx hQ n h4 hf h1 h3 (h0.trans h2))

theorem sem_sound (hcf : CSim P cf) (hup : CUp cf) (hdr : DrawSound P cf) {N nt : Nat} (hnt : nt ≤ 100000) : ∀ (c : Code) {ι : Emb} {τ : Fm} {H : Hp} {a : Act} {w : World}, St nt ι τ H a w →
    sem N cf (compCode P z nt c) τ H ≠ .fail → FreeO ι H (sem N cf (compCode P z nt c) τ H) → c.wp P (Lands nt ι H w (sem N cf (compCode P z nt c) τ H)) a w := by
  intro c
  induction c with
  | skip => intro ι τ H a w hs hf hfr; exact wp_skip ⟨rfl, ι, hs, .refl hs.hr⟩
  | ret => intro ι τ H a w hs hf hfr; exact wp_ret ⟨rfl, ι, hs, .refl hs.hr⟩
  | exit id => intro ι τ H a w hs hf hfr; exact wp_exit ⟨rfl, ι, hs, .refl hs.hr⟩
  | region id ops draw =>
    intro ι τ H a w hs hf hfr
    cases draw with
    | false =>
      refine wp_region ?_
      have := ops_sound (P := P) (Q := Lands nt ι H w (sem N cf (compCode P z nt (.region id ops false)) τ H)) hcf hup hnt ops.toList 0 (List.replicate ops.size 0) (fun j => by simp) hs rfl hf hfr (fun a' w' h => h)
      rwa [Array.length_toList, ← List.range_eq_range'] at this
    | true =>
      have e : compCode P z nt (.region id ops true) = if drawOk ops.toList (compOps P (fun _ => false) nt ops ops.toList (Region.before ops).toList) then .draw (compOps P (fun _ => false) nt ops ops.toList (Region.before ops).toList) else .bad := rfl
      rw [e] at hf hfr ⊢
      split at hf
      · rename_i hd
        rw [if_pos hd] at hfr ⊢
        exact hdr nt id ops ι τ H a w _ hnt hd hs rfl hf hfr
      · exact absurd rfl hf
  | seq x y ihx ihy =>
    intro ι τ H a w hs hf hfr
    refine wp_seq (seq_sound (k := sem N cf (compCode P z nt y)) (oa := sem N cf (compCode P z nt x) τ H) (sem_up hup _) rfl hf hfr (sem_up hup _ _ _) (ihx hs) (fun e a' w' _ h => h) ?_)
    intro τ1 H1 ι1 a1 w1 _ h1 h2 h3 h4
    have := ihy (ι := ι1) (τ := τ1) (H := H1) (a := a1) (w := w1) h1 (by rw [h4]; exact hf) (by rw [h4]; exact h3)
    rw [h4] at this
    exact wp_mono this fun e a' w' h => h.before h2
  | cond o x y ihx ihy =>
    intro ι τ H a w hs hf hfr
    unfold compCode at hf hfr ⊢
    cases ho : od o with
    | none => simp only [ho] at hf; exact absurd rfl hf
    | some u =>
      simp only [ho] at hf hfr
      have hv := od_sound hs.tr ho
      have e : sem N cf (.cond u (compCode P z nt x) (compCode P z nt y)) τ H = condI (sem N cf (compCode P z nt x) τ H) (sem N cf (compCode P z nt y) τ H) (u.ev τ) := rfl
      simp only [] at hf hfr ⊢
      rw [e] at hf hfr ⊢
      generalize u.ev τ = q at hf hfr hv ⊢
      cases q with
      | b t =>
        have hb := vr_b hv
        cases t with
        | true => exact wp_cond_true hb (ihx hs hf hfr)
        | false => exact wp_cond_false hb (ihy hs hf hfr)
      | _ => exact absurd rfl hf
  | block id x ih =>
    intro ι τ H a w hs hf hfr
    have e : sem N cf (compCode P z nt (.block id x)) τ H = blockI id (sem N cf (compCode P z nt x) τ H) := rfl
    rw [e] at hf hfr ⊢
    have ih := ih hs
    generalize sem N cf (compCode P z nt x) τ H = q at hf hfr ih ⊢
    refine wp_block ?_
    cases q with
    | fail => exact absurd rfl hf
    | nrm τ1 H1 =>
      refine wp_mono (ih (by simp) hfr) ?_
      rintro e a1 w1 ⟨rfl, h⟩
      exact ⟨rfl, h⟩
    | ret τ1 H1 =>
      refine wp_mono (ih (by simp) hfr) ?_
      rintro e a1 w1 ⟨rfl, h⟩
      exact ⟨rfl, h⟩
    | exit k τ1 H1 =>
      have hfr' : FreeO ι H (.exit k τ1 H1) := by
        have : blockI id (.exit k τ1 H1) = cond (Nat.beq k id) (.nrm τ1 H1) (.exit k τ1 H1) := rfl
        rw [this] at hfr
        cases q : Nat.beq k id <;> (rw [q] at hfr; exact hfr)
      refine wp_mono (ih (by simp) hfr') ?_
      rintro e a1 w1 ⟨rfl, h⟩
      have : blockI id (.exit k τ1 H1) = cond (Nat.beq k id) (.nrm τ1 H1) (.exit k τ1 H1) := rfl
      rw [this]
      show (if k = id then Lands nt ι H w _ .normal a1 w1 else Lands nt ι H w _ (.exit k) a1 w1)
      by_cases hk : k = id
      · subst hk
        rw [if_pos rfl, Nat.beq_refl]
        exact ⟨rfl, h⟩
      · rw [if_neg hk, beq_no hk]
        exact ⟨rfl, h⟩
  | loop x ih =>
    intro ι τ H a w hs hf hfr
    refine wp_loop_rounds N ?_
    have e : sem N cf (compCode P z nt (.loop x)) τ H = loopN (sem N cf (compCode P z nt x)) N τ H := rfl
    rw [e] at hf hfr ⊢
    exact rounds_sound (sem_up hup _) (fun hs hf hfr => ih hs hf hfr) (fun e a' w' h => h) N rfl hf hs hfr (.refl hs.hr)
  | _ => intro ι τ H a w hs hf hfr; exact absurd rfl hf
end
end Go.Fg
/- The ideal machine: functions and calls. -/
namespace Go.Fg
variable {z : Oper → Bool} {Z : Nat → Oper → Bool}

section
variable {P : Program} {ι : Emb} {τ : Fm} {a : Act} {H : Hp} {w : World} {cf : CallF}

theorem resultsI_cons (τ : Fm) (h : Hp) (r : IRes) (l : List IRes) : resultsI τ h (r :: l) = consO (resI τ h r) (resultsI τ h l) := rfl
theorem consO_some {x : Option IV} {y : Option (List IV)} {l : List IV} (h : consO x y = some l) : ∃ v vs, x = some v ∧ y = some vs ∧ l = v :: vs := by
  unfold consO at h
  split at h
  · split at h
    · cases h; exact ⟨_, _, rfl, rfl, rfl⟩
    · cases h
  · cases h

/-- What a result variable holds. -/
def resRun (tmps : Array Value) (r : ResultVar) : Sem Value := match r with
  | .tmp t => pure (tmps.getD t undef)
  | .cell a t => do loadVar t (← asAddr (tmps.getD a undef))

theorem res_sound (hT : TR ι τ a) (hH : HR ι H w) : ∀ {l : List ResultVar} {rs : List IRes} {vs : List IV}, compRes P l = some rs → resultsI τ H rs = some vs → ∃ vs', (l.mapM (resRun a.tmps)).run P w = .ok vs' w ∧ VRs ι vs vs'
  | [], rs, vs, hc, hr => by
    cases hc
    cases hr
    exact ⟨[], by simp, .nil⟩
  | x :: l, rs, vs, hc, hr => by
    unfold compRes at hc
    split at hc
    · rename_i ir irs hx hl
      cases hc
      rw [resultsI_cons] at hr
      obtain ⟨v, vs, h1, h2, rfl⟩ := consO_some hr
      obtain ⟨vs', k1, k2⟩ := res_sound hT hH hl h2
      have one : ∃ v', (resRun a.tmps x).run P w = .ok v' w ∧ VR ι v v' := by
        cases x with
        | tmp t =>
          simp only [] at hx
          split at hx
          · rename_i hlt
            cases hx
            cases h1
            exact ⟨_, rfl, hT t (Nat.le_of_ble_eq_true hlt)⟩
          · cases hx
        | cell ad t =>
          simp only [] at hx
          split at hx
          · rename_i hlt
            have hv := hT ad (Nat.le_of_ble_eq_true hlt)
            split at hx
            · rename_i hag
              split at hx
              · rename_i n hn
                cases hx
                have h1 : evLd n H [Fm.at τ (pos ad)] = some v := h1
                unfold evLd at h1
                split at h1
                · rename_i b ofs e
                  injection e with e _
                  rw [e] at hv
                  obtain ⟨L, hL, hx⟩ := vr_p hv
                  split at h1
                  · rename_i l hl
                    cases h1
                    obtain ⟨l', h1, h2, h3⟩ := read_sound (P := P) hH hl hL
                    exact ⟨.agg l'.toArray, by simp [resRun, hx, asAddr, loadVar, isAgg_true hag, run_sz hn, h3], .agg _ _ (by simpa using h1)⟩
                  · cases h1
                · rename_i l e
                  injection e with e _
                  rw [e] at hv
                  obtain ⟨l0, rr, sh, d, q1, q2, hx⟩ := vr_pi hv
                  cases hb : Nat.ble n l.length with
                  | false => rw [hb] at h1; cases h1
                  | true =>
                    rw [hb] at h1
                    cases h1
                    have hb := Nat.le_of_ble_eq_true hb
                    obtain ⟨l', h3, h4⟩ := im_read (P := P) hH q1 (List.IsPrefix.trans (List.take_prefix n l) q2)
                    rw [List.length_take, Nat.min_eq_left hb] at h4
                    exact ⟨.agg l'.toArray, by simp [resRun, hx, asAddr, loadVar, isAgg_true hag, run_sz hn, h4], .agg _ _ (by simpa using h3)⟩
                · cases h1
              · cases hx
            · rename_i hag
              have hag : isAggT P t = false := by simpa using hag
              split at hx
              · rename_i d hd
                cases hx
                have h1 : evLd1 H [Fm.at τ (pos ad)] = some v := h1
                unfold evLd1 at h1
                split at h1
                · rename_i b ofs e
                  injection e with e _
                  rw [e] at hv
                  obtain ⟨L, hL, hx⟩ := vr_p hv
                  obtain ⟨v', m1, m2⟩ := read1_sound hH h1 hL
                  exact ⟨v', by simp [resRun, hx, asAddr, loadVar, isAgg_false hag hd, m2], m1⟩
                · rename_i l e
                  injection e with e _
                  rw [e] at hv
                  obtain ⟨l0, rr, sh, d', q1, q2, hx⟩ := vr_pi hv
                  obtain ⟨v', h3, h4⟩ := im_get hH q1 q2 h1
                  rw [Nat.add_zero] at h3
                  exact ⟨v', by simp [resRun, hx, asAddr, loadVar, isAgg_false hag hd, h3], h4⟩
                · cases h1
              · cases hx
          · cases hx
      obtain ⟨v', m1, m2⟩ := one
      exact ⟨v' :: vs', by simp [List.mapM_cons, m1, k1], .cons _ _ _ _ m2 k2⟩
    · cases hc

theorem results_sound (hT : TR ι τ a) (hH : HR ι H w) {fn : Func} {rs : List IRes} {vs : List IV} (hc : compRes P fn.results.toList = some rs) (hr : resultsI τ H rs = some vs) : ∃ v', (results fn a.tmps).run P w = .ok v' w ∧ VR ι (oneOf vs) v' := by
  obtain ⟨vs', k1, k2⟩ := res_sound hT hH hc hr
  have e : (results fn a.tmps).run P w = .ok (if h : vs'.toArray.size = 1 then vs'.toArray[0] else .tuple vs'.toArray) w := by
    have : results fn a.tmps = (do let vs ← fn.results.mapM (resRun a.tmps); pure (if h : vs.size = 1 then vs[0] else .tuple vs)) := by
      unfold results
      congr 1
    rw [this, Array.mapM_eq_mapM_toList]
    simp [k1]
  refine ⟨_, e, ?_⟩
  match vs, vs', k2 with
  | [], _, .nil => exact .tup _ _ .nil
  | [x], _, .cons _ y _ _ h .nil => simpa [oneOf] using h
  | x :: x2 :: l, _, .cons _ y _ _ h (.cons _ y2 _ _ h2 t) =>
    simp [oneOf]
    exact .tup _ _ (.cons _ _ _ _ h (.cons _ _ _ _ h2 t))

theorem leaveI_some {rs : List IRes} {out : Out} {v : IV} {h : Hp} (e : leaveI rs out = some (v, h)) : ∃ τ vs, (out = .nrm τ h ∨ out = .ret τ h) ∧ resultsI τ h rs = some vs ∧ v = oneOf vs := by
  unfold leaveI at e
  split at e
  · split at e
    · cases e; exact ⟨_, _, .inl rfl, ‹_›, rfl⟩
    · cases e
  · split at e
    · cases e; exact ⟨_, _, .inr rfl, ‹_›, rfl⟩
    · cases e
  · cases e

theorem callFn_up (hup : CUp cf) {N : Nat} {fn : IFn} {args : List IV} {h h' : Hp} {v : IV} (e : callFn N cf fn args h = some (v, h')) : h.next.num ≤ h'.next.num := by
  unfold callFn at e
  obtain ⟨τ, vs, h1, _, _⟩ := leaveI_some e
  have := sem_up (N := N) hup fn.body (frameOf args .h .nil) h
  rcases h1 with h1 | h1 <;> (rw [h1] at this; exact this)

theorem frameOf_nil (p : Pos) (τ : Fm) : frameOf [] p τ = τ := rfl
theorem frameOf_cons (v : IV) (l : List IV) (p : Pos) (τ : Fm) : frameOf (v :: l) p τ = frameOf l p.nxt (PT.put τ p (some v)) := rfl

theorem frame_at : ∀ (args : List IV) (p : Pos) (τ : Fm) (q : Pos), Fm.at (frameOf args p τ) q = match (if p.num ≤ q.num then args[q.num - p.num]? else none) with
    | some v => v
    | none => Fm.at τ q
  | [], p, τ, q => by
    rw [frameOf_nil]
    split
    · rename_i h
      split at h <;> simp at h
    · rfl
  | v :: l, p, τ, q => by
    rw [frameOf_cons, frame_at l]
    rw [Pos.num_nxt]
    have hput : PT.put τ p (some v) = putd τ (some p) v := rfl
    rw [hput]
    rcases Nat.lt_trichotomy q.num p.num with h | h | h
    · rw [if_neg (by omega), if_neg (by omega)]
      exact Fm.at_putd_ne _ _ (fun e => by subst e; omega)
    · have := Pos.num_inj h
      subst this
      rw [if_neg (by omega), if_pos (by omega)]
      simp only [Nat.sub_self, List.getElem?_cons_zero]
      exact Fm.at_putd_eq _ _ _
    · rw [if_pos (by omega), if_pos (by omega)]
      rw [show q.num - p.num = (q.num - (p.num + 1)) + 1 by omega, List.getElem?_cons_succ]
      rw [Fm.at_putd_ne _ _ (fun e => by subst e; omega)]

theorem frame_sound {args : List IV} {args' : Array Value} {n : Nat} (h : VRs ι args args'.toList) {ds : List Deferred} : TR ι (frameOf args .h .nil) { tmps := args' ++ Array.replicate n undef, defers := ds } := by
  intro t ht
  have h1 : Pos.h.num = 1 := rfl
  rw [frame_at, num_pos ht, h1, if_pos (by omega), Nat.add_sub_cancel]
  cases q : args[t]? with
  | some v =>
    obtain ⟨v', h1, h2⟩ := h.get q
    have hlt : t < args'.size := by
      rcases Nat.lt_or_ge t args'.size with h | h
      · exact h
      · rw [List.getElem?_eq_none (by simpa using h)] at h1; cases h1
    have : (args' ++ Array.replicate n undef).getD t undef = v' := by
      rw [Array.getD_eq_getD_getElem?, Array.getElem?_append_left hlt, ← Array.getElem?_toList, h1]
      rfl
    show VR ι v ((args' ++ Array.replicate n undef).getD t undef)
    rw [this]
    exact h2
  | none =>
    have hge : args'.size ≤ t := by
      have := List.getElem?_eq_none_iff.1 q
      have hl := h.length
      simp at hl
      omega
    have : (args' ++ Array.replicate n undef).getD t undef = undef := by
      rw [Array.getD_eq_getD_getElem?, Array.getElem?_append_right hge, Array.getElem?_replicate]
      split <;> rfl
    show VR ι undefd ((args' ++ Array.replicate n undef).getD t undef)
    rw [this]
    exact vr_undef ι

theorem compFn_some {n : Nat} {f : IFn} (h : compFn P Z n = some f) : ∃ fn c, P.funcs[n]? = some fn ∧ fn.body = some c ∧ compRes P fn.results.toList = some f.res ∧ fn.ntmps ≤ 100000 ∧ fn.name ≠ "runtime.NumGoroutine" ∧ f.body = compCode P (Z n) fn.ntmps c := by
  unfold compFn at h
  split at h
  · rename_i fn hfn
    split at h
    · rename_i c rs hb hr
      split at h
      · rename_i hc
        cases h
        exact ⟨fn, c, hfn, hb, hr, hc.1, hc.2, rfl⟩
      · cases h
    · cases h
  · cases h

theorem callFn_sound (hcf : CSim P cf) (hup : CUp cf) (hdr : DrawSound P cf) {N n : Nat} {f : IFn} (hc : compFn P Z n = some f) {args : List IV} {h h' : Hp} {v : IV} (e : callFn N cf f args h = some (v, h')) :
    (∃ fn, P.funcs[n]? = some fn ∧ fn.body.isNone = false ∧ (fn.name == "runtime.NumGoroutine") = false) ∧
    ∀ (ι : Emb) (w : World) (args' : Array Value), VRs ι args args'.toList → HR ι h w → Free ι h h' →
      Calls P n args' w fun e w' => ∃ v' ι', e = .returned v' ∧ VR ι' v v' ∧ Fin ι h w ι' h' w' := by
  obtain ⟨fn, c, h1, h2, h3, h4, h5, h6⟩ := compFn_some hc
  refine ⟨⟨fn, h1, by rw [h2]; rfl, by simpa using h5⟩, fun ι w args' hargs hH hfree => ?_⟩
  unfold callFn at e
  obtain ⟨τ, vs, k1, k2, rfl⟩ := leaveI_some e
  rw [h6] at k1
  refine calls_of_wp h1 h2 ?_
  have hs : St fn.ntmps ι (frameOf args .h .nil) h { tmps := args' ++ Array.replicate (fn.ntmps - args'.size) undef, defers := [] } w := ⟨frame_sound hargs, hH, by simp; omega, rfl⟩
  have hfail : sem N cf (compCode P (Z n) fn.ntmps c) (frameOf args .h .nil) h ≠ .fail := by rcases k1 with k1 | k1 <;> (rw [k1]; simp)
  have hfr : FreeO ι h (sem N cf (compCode P (Z n) fn.ntmps c) (frameOf args .h .nil) h) := by rcases k1 with k1 | k1 <;> (rw [k1]; exact hfree)
  refine wp_mono (sem_sound hcf hup hdr h4 c hs hfail hfr) ?_
  intro e2 a2 w2 hl
  rcases k1 with k1 | k1
  · rw [k1] at hl
    obtain ⟨rfl, ι', m1, m2⟩ := hl
    obtain ⟨v', r1, r2⟩ := results_sound m1.tr m1.hr h3 k2
    exact ⟨m1.def_, v', r1, v', ι', rfl, r2, m2⟩
  · rw [k1] at hl
    obtain ⟨rfl, ι', m1, m2⟩ := hl
    obtain ⟨v', r1, r2⟩ := results_sound m1.tr m1.hr h3 k2
    exact ⟨m1.def_, v', r1, v', ι', rfl, r2, m2⟩

theorem callN_zero (T : Pos → Option IFn) (N : Nat) (f : Pos) (args : List IV) (h : Hp) : callN T N 0 f args h = none := rfl
theorem callN_succ (T : Pos → Option IFn) (N n : Nat) (f : Pos) (args : List IV) (h : Hp) : callN T N (n + 1) f args h = match T f with
    | none => none
    | some fn => callFn N (callN T N n) fn args h := rfl

theorem callN_up {T : Pos → Option IFn} {N : Nat} : ∀ n, CUp (callN T N n)
  | 0 => fun g args h v h' e => by rw [callN_zero] at e; cases e
  | n + 1 => fun g args h v h' e => by
    rw [callN_succ] at e
    split at e
    · cases e
    · exact callFn_up (callN_up n) e

/-- THE IDEAL MACHINE'S ANSWER IS THE MODEL'S. -/
theorem callN_sound (hdr : ∀ cf, CSim P cf → CUp cf → DrawSound P cf) {T : Pos → Option IFn} (hT : ∀ n f, n < 1000000 → T (pos n) = some f → compFn P Z n = some f) {N : Nat} : ∀ n, CSim P (callN T N n)
  | 0 => fun g args h v h' _ e => by rw [callN_zero] at e; cases e
  | n + 1 => fun g args h v h' hg e => by
    rw [callN_succ] at e
    split at e
    · cases e
    · rename_i f hf
      exact callFn_sound (callN_sound hdr hT n) (callN_up n) (hdr _ (callN_sound hdr hT n) (callN_up n)) (hT g f hg hf) e
end
end Go.Fg
/- The ideal machine: regions whose order is open: what the checks say. -/
namespace Go.Fg

theorem pairsOk_mem : ∀ {l : List (Nat × IOper)} {oy : IOper}, pairsOk l oy = true → ∀ x ox, (x, ox) ∈ l → pairOk x ox oy = true
  | [], _, _, _, _, h => by cases h
  | (x, ox) :: r, oy, hp, y, oy', h => by
    unfold pairsOk at hp
    rw [Bool.and_eq_true] at hp
    rcases List.mem_cons.1 h with e | h
    · cases e; exact hp.1
    · exact pairsOk_mem hp.2 y oy' h

theorem allOk_spec : ∀ {r : List (Oper × IOper)} {done : List (Nat × IOper)} {n : Nat}, allOk done n r = true →
    (∀ y o, r[y]? = some o → (∀ x ox, (x, ox) ∈ done → pairOk x ox o.2 = true) ∧ (∀ x o', x < y → r[x]? = some o' → pairOk (n + x) o'.2 o.2 = true) ∧ afterOk (n + y) o.1 = true)
  | [], done, n, _, y, o, h => by simp at h
  | o0 :: r, done, n, hp, y, o, h => by
    unfold allOk at hp
    rw [Bool.and_eq_true, Bool.and_eq_true] at hp
    obtain ⟨⟨h1, h2⟩, h3⟩ := hp
    cases y with
    | zero =>
      simp at h
      subst h
      exact ⟨fun x ox hm => pairsOk_mem h1 x ox hm, fun x o' hx => absurd hx (Nat.not_lt_zero _), h2⟩
    | succ y =>
      simp only [List.getElem?_cons_succ] at h
      obtain ⟨k1, k2, k3⟩ := allOk_spec h3 y o h
      refine ⟨fun x ox hm => k1 x ox (List.mem_cons_of_mem _ hm), fun x o' hx hx' => ?_, by rwa [show n + (y + 1) = n + 1 + y by omega]⟩
      cases x with
      | zero =>
        simp at hx'
        subst hx'
        exact k1 n _ (List.mem_cons_self ..)
      | succ x =>
        simp only [List.getElem?_cons_succ] at hx'
        have := k2 x o' (by omega) hx'
        rwa [show n + (x + 1) = n + 1 + x by omega]

theorem drawOk_spec {ops : List Oper} {l : List IOper} (h : drawOk ops l = true) (hl : l.length = ops.length) :
    (∀ x y ox oy, x < y → l[x]? = some ox → l[y]? = some oy → pairOk x ox oy = true) ∧ (∀ i o, ops[i]? = some o → afterOk i o = true) := by
  have hs := allOk_spec h
  have zip : ∀ i o io, ops[i]? = some o → l[i]? = some io → (ops.zip l)[i]? = some (o, io) := fun i o io h1 h2 => by
    rw [List.getElem?_zip_eq_some]; exact ⟨h1, h2⟩
  have other : ∀ i io, l[i]? = some io → ∃ o, ops[i]? = some o := fun i io hi => by
    have := (List.getElem?_eq_some_iff.1 hi).1
    exact ⟨ops[i], List.getElem?_eq_getElem (by omega)⟩
  constructor
  · intro x y ox oy hxy h1 h2
    obtain ⟨o1, e1⟩ := other x ox h1
    obtain ⟨o2, e2⟩ := other y oy h2
    have := (hs y (o2, oy) (zip _ _ _ e2 h2)).2.1 x (o1, ox) hxy (zip _ _ _ e1 h1)
    simpa using this
  · intro i o hi
    have hlt := (List.getElem?_eq_some_iff.1 hi).1
    have := (hs i (o, l[i]) (zip _ _ _ hi (List.getElem?_eq_getElem (by omega)))).2.2
    simpa using this

theorem hasP_mem {p : Pos} : ∀ {l : List Pos}, hasP p l = true ↔ p ∈ l
  | [] => by simp [hasP]
  | q :: r => by
    unfold hasP
    rw [Bool.or_eq_true, hasP_mem, List.mem_cons]
    simp

theorem evs_congr {τ τ' : Fm} : ∀ {l : List Od}, (∀ p ∈ looksO l, Fm.at τ p = Fm.at τ' p) → evs τ l = evs τ' l
  | [], _ => rfl
  | .t n :: r, h => by
    rw [evs_cons, evs_cons, evs_congr (l := r) fun p hp => h p (List.mem_cons_of_mem _ hp)]
    have : (Od.t n).ev τ = (Od.t n).ev τ' := h n (List.mem_cons_self ..)
    rw [this]
  | .c v :: r, h => by
    rw [evs_cons, evs_cons, evs_congr (l := r) fun p hp => h p hp]
    rfl

/-- The result of an operation hangs on the temporaries that it looks at. -/
theorem exOp_congr {cf : CallF} {o : Io} {τ τ' : Fm} {H : Hp} (h : ∀ p ∈ looksO o.ods, Fm.at τ p = Fm.at τ' p) : exOp cf o τ H = exOp cf o τ' H := by
  cases o with
  | rd r xs => show exRd r (evs τ xs) H = exRd r (evs τ' xs) H; rw [show evs τ xs = evs τ' xs from evs_congr h]
  | al r xs => show exAl r (evs τ xs) H = exAl r (evs τ' xs) H; rw [show evs τ xs = evs τ' xs from evs_congr h]
  | ef r xs => show r.ev (evs τ xs) H = r.ev (evs τ' xs) H; rw [show evs τ xs = evs τ' xs from evs_congr h]
  | call f xs =>
    show exCall cf (f.ev τ) (evs τ xs) H = exCall cf (f.ev τ') (evs τ' xs) H
    have h' : ∀ p ∈ looksO (f :: xs), Fm.at τ p = Fm.at τ' p := h
    have := evs_congr h'
    rw [evs_cons, evs_cons] at this
    injection this with e1 e2
    rw [e1, e2]
  | bad => rfl
theorem wantedI_congr {g : Option (Pos × Bool)} {τ τ' : Fm} (h : ∀ p ∈ looksG g, Fm.at τ p = Fm.at τ' p) : wantedI g τ = wantedI g τ' := by
  cases g with
  | none => rfl
  | some x =>
    obtain ⟨t, w⟩ := x
    show wantV w (Fm.at τ t) = wantV w (Fm.at τ' t)
    rw [h t (List.mem_cons_self ..)]

/-- What looks at no memory sees the same in every memory. -/
theorem rd_plain {r : Rd} (h : isR r = false) (xs : List IV) (H H' : Hp) : r.ev xs H = r.ev xs H' := by
  cases r <;> first | rfl | (cases h; done)

/-! ### The text of the orders -/
section before
theorem inner_bits (acc : Array Nat) (j : Nat) : ∀ (l : List Edge) (s : Nat), (l.foldl (fun s e => if Region.binds .any e then s ||| 2 ^ e.on ||| acc.getD e.on 0 else s) s).testBit j = true →
    s.testBit j = true ∨ ∃ e ∈ l, Region.binds .any e = true ∧ (e.on = j ∨ (acc.getD e.on 0).testBit j = true)
  | [], s, h => .inl h
  | e :: l, s, h => by
    rw [List.foldl_cons] at h
    rcases inner_bits acc j l _ h with h | ⟨e', h1, h2, h3⟩
    · split at h
      · rename_i hb
        rw [Nat.testBit_or, Nat.testBit_or, Bool.or_eq_true, Bool.or_eq_true] at h
        rcases h with (h | h) | h
        · exact .inl h
        · rw [Nat.testBit_two_pow] at h
          exact .inr ⟨e, List.mem_cons_self .., hb, .inl (by simpa using h)⟩
        · exact .inr ⟨e, List.mem_cons_self .., hb, .inr h⟩
      · exact .inl h
    · exact .inr ⟨e', List.mem_cons_of_mem _ h1, h2, h3⟩

def stepB (acc : Array Nat) (o : Oper) : Array Nat := acc.push (o.after.foldl (fun s e => if Region.binds .any e then s ||| 2 ^ e.on ||| acc.getD e.on 0 else s) 0)
theorem stepB_keeps : ∀ (l : List Oper) (acc : Array Nat), (l.foldl stepB acc).size = acc.size + l.length ∧ ∀ i, i < acc.size → (l.foldl stepB acc).getD i 0 = acc.getD i 0
  | [], acc => ⟨rfl, fun _ _ => rfl⟩
  | o :: l, acc => by
    obtain ⟨h1, h2⟩ := stepB_keeps l (stepB acc o)
    have hs : (stepB acc o).size = acc.size + 1 := by simp [stepB]
    rw [List.foldl_cons]
    refine ⟨by rw [h1, hs]; simp; omega, fun i hi => ?_⟩
    rw [h2 i (by omega)]
    simp only [stepB, Array.getD_eq_getD_getElem?]
    rw [Array.getElem?_push_lt hi]
    simp [hi]
theorem stepB_spec : ∀ (l : List Oper) (acc : Array Nat) (k : Nat) (o : Oper) (j : Nat), l[k]? = some o → ((l.foldl stepB acc).getD (acc.size + k) 0).testBit j = true →
    ∃ e ∈ o.after.toList, Region.binds .any e = true ∧ (e.on = j ∨ ((l.foldl stepB acc).getD e.on 0).testBit j = true)
  | [], acc, k, o, j, hk, _ => by simp at hk
  | o0 :: l, acc, 0, o, j, hk, h => by
    simp at hk
    subst hk
    rw [List.foldl_cons] at h ⊢
    obtain ⟨_, h2⟩ := stepB_keeps l (stepB acc o0)
    have hs : (stepB acc o0).size = acc.size + 1 := by simp [stepB]
    rw [Nat.add_zero, h2 acc.size (by omega)] at h
    have h3 : (stepB acc o0).getD acc.size 0 = o0.after.toList.foldl (fun s e => if Region.binds .any e then s ||| 2 ^ e.on ||| acc.getD e.on 0 else s) 0 := by
      simp [stepB, Array.getD_eq_getD_getElem?]
    rw [h3] at h
    rcases inner_bits acc j _ _ h with h | ⟨e, h1, h4, h5⟩
    · simp at h
    · refine ⟨e, h1, h4, h5.imp id fun h5 => ?_⟩
      by_cases hlt : e.on < acc.size
      · rw [h2 e.on (by omega)]
        simp only [stepB, Array.getD_eq_getD_getElem?] at h5 ⊢
        rw [Array.getElem?_push_lt hlt]
        simpa [hlt] using h5
      · rw [Array.getD_eq_getD_getElem?, Array.getElem?_eq_none (by omega)] at h5
        simp at h5
  | o0 :: l, acc, k + 1, o, j, hk, h => by
    simp only [List.getElem?_cons_succ] at hk
    rw [List.foldl_cons] at h ⊢
    have hs : (stepB acc o0).size = acc.size + 1 := by simp [stepB]
    exact stepB_spec l (stepB acc o0) k o j hk (by rwa [hs, show acc.size + 1 + k = acc.size + (k + 1) by omega])

theorem before_eq (ops : Array Oper) : Region.before ops = ops.toList.foldl stepB #[] := by
  unfold Region.before
  rw [← Array.foldl_toList]
  rfl
theorem before_size (ops : Array Oper) : (Region.before ops).size = ops.size := by
  rw [before_eq, (stepB_keeps _ _).1]; simp
theorem before_spec {ops : Array Oper} {i j : Nat} {o : Oper} (hi : ops[i]? = some o) (h : ((Region.before ops).getD i 0).testBit j = true) :
    ∃ e ∈ o.after.toList, Region.binds .any e = true ∧ (e.on = j ∨ ((Region.before ops).getD e.on 0).testBit j = true) := by
  rw [before_eq] at h ⊢
  exact stepB_spec ops.toList #[] i o j (by simpa using hi) (by simpa using h)
end before
end Go.Fg
/- The ideal machine: memory while a region's operations run in another order. -/
namespace Go.Fg

/-- Memory and its names, memory being any function. -/
structure FinG (ι₀ : Emb) (H₀ : Hp) (w₀ : World) (ι : Emb) (g : Pos → Option Blk) (nx : Nat) (w : World) : Prop where
  ext : ι₀.le ι
  fresh : ∀ b, ι₀ b = none → ι b ≠ none → H₀.next.num ≤ b.num ∧ b.num < nx
  pro : ∀ x r sh, ι.im x r sh → BI ι.bare x r sh w
  apart : ∀ b x L y r sh, g b = some x → x.live = true → ι b = some L → ι.im y r sh → r ≠ L.r
  blk : ∀ b x L, g b = some x → ι b = some L → BR ι x L w
  inj : ∀ b₁ b₂ L₁ L₂, g b₁ ≠ none → g b₂ ≠ none → ι b₁ = some L₁ → ι b₂ = some L₂ → L₁.r = L₂.r → b₁ = b₂
  lt : ∀ b L, ι b = some L → L.r < w.heap.size
  size : w₀.heap.size ≤ w.heap.size
  frame : ∀ r, r < w₀.heap.size → (∀ b L, ι₀ b = some L → H₀.get b ≠ none → L.r ≠ r) → w.heap[r]? = w₀.heap[r]?
  cover : ∀ b L, ι b = some L → g b ≠ none → L.r < w₀.heap.size → ∃ b₀ L₀, ι₀ b₀ = some L₀ ∧ H₀.get b₀ ≠ none ∧ L₀.r = L.r
  icov : ∀ x r sh, ι.im x r sh → r < w₀.heap.size → (∃ x₀ sh₀, ι₀.im x₀ r sh₀) ∨ ∃ b₀ L₀, ι₀ b₀ = some L₀ ∧ H₀.get b₀ ≠ none ∧ L₀.r = r
  still : ∀ b, b.num < H₀.next.num → ι₀ b = none → g b = H₀.get b
  out : sameOut w₀ w

def Low (H : Hp) : Prop := ∀ b, H.get b ≠ none → b.num < H.next.num

section
variable {ι₀ ι ι' : Emb} {H₀ X X' : Hp} {w₀ w w' : World} {g g' : Pos → Option Blk} {nx : Nat}

theorem FinG.hr (f : FinG ι₀ H₀ w₀ ι g nx w) (hlow : Low X) (hsub : ∀ b, b.num < X.next.num → X.get b = g b) : HR ι X w where
  pro := f.pro
  apart b x L y r sh h1 := f.apart b x L y r sh (by rw [← hsub b (hlow b (by simp [h1]))]; exact h1)
  blk b x L h1 h2 := f.blk b x L (by rw [← hsub b (hlow b (by simp [h1]))]; exact h1) h2
  inj b₁ b₂ L₁ L₂ h1 h2 := f.inj b₁ b₂ L₁ L₂ (by rw [← hsub _ (hlow _ h1)]; exact h1) (by rw [← hsub _ (hlow _ h2)]; exact h2)
  lt := f.lt
  low := hlow

/-- An effect. -/
theorem FinG.eff (f : FinG ι₀ H₀ w₀ ι g nx w) (hlow : Low X) (hsub : ∀ b, b.num < X.next.num → X.get b = g b) (hX : H₀.next.num ≤ X.next.num) (k : Fin ι X w ι' X' w')
    (h1 : ∀ b, b.num < X'.next.num → g' b = X'.get b) (h2 : ∀ b, X'.next.num ≤ b.num → g' b = g b) (hn : X'.next.num ≤ nx) : FinG ι₀ H₀ w₀ ι' g' nx w' := by
  have nofresh : ∀ b L, X'.next.num ≤ b.num → ι' b = some L → ι b = some L := fun b L hb hL => by
    cases q : ι b with
    | some M => rw [k.ext.1 b M q] at hL; rw [hL]
    | none => have := k.fresh b q (by simp [hL]); omega
  have nox : ∀ b, X'.next.num ≤ b.num → X.get b = none := fun b hb => by
    cases q : X.get b with
    | none => rfl
    | some x => have := hlow b (by simp [q]); have := k.up; omega
  exact {
    ext := f.ext.trans k.ext
    fresh := fun b e1 e2 => by
      by_cases c : ι b = none
      · have := k.fresh b c e2; exact ⟨by omega, by omega⟩
      · exact f.fresh b e1 c
    pro := k.hr.pro
    apart := fun b x L y r sh e1 hlive e2 hy er => by
      by_cases c : b.num < X'.next.num
      · rw [h1 b c] at e1; exact k.hr.apart b x L y r sh e1 hlive e2 hy er
      · have c : X'.next.num ≤ b.num := by omega
        rw [h2 b c] at e1
        have e3 := nofresh b L c e2
        rcases k.icov y r sh hy (by rw [er]; exact f.lt b L e3) with ⟨x₀, sh₀, hx₀⟩ | ⟨b₀, L₀, p1, p2, p3⟩
        · exact f.apart b x L x₀ r sh₀ e1 hlive e3 hx₀ er
        · have p4 : g b₀ ≠ none := by rw [← hsub b₀ (hlow b₀ p2)]; exact p2
          have := f.inj b₀ b L₀ L p4 (by simp [e1]) p1 e3 (by omega)
          subst this
          exact p2 (nox b₀ c)
    blk := fun b x L e1 e2 => by
      by_cases c : b.num < X'.next.num
      · rw [h1 b c] at e1; exact k.hr.blk b x L e1 e2
      · have c : X'.next.num ≤ b.num := by omega
        rw [h2 b c] at e1
        have e3 := nofresh b L c e2
        refine (f.blk b x L e1 e3).mono k.ext (k.frame L.r (f.lt b L e3) fun b2 L2 m1 m2 m3 => ?_)
        have m4 : g b2 ≠ none := by rw [← hsub b2 (hlow b2 m2)]; exact m2
        have := f.inj b2 b L2 L m4 (by simp [e1]) m1 e3 m3
        subst this
        exact m2 (nox b2 c)
    inj := fun b₁ b₂ L₁ L₂ e1 e2 m1 m2 er => by
      have mixed : ∀ (b₁ b₂ : Pos) (L₁ L₂ : Loc), b₁.num < X'.next.num → X'.next.num ≤ b₂.num → g' b₁ ≠ none → g' b₂ ≠ none → ι' b₁ = some L₁ → ι' b₂ = some L₂ → L₁.r = L₂.r → False := by
        intro b₁ b₂ L₁ L₂ c1 c2 e1 e2 m1 m2 er
        rw [h1 b₁ c1] at e1
        rw [h2 b₂ c2] at e2
        have m3 := nofresh b₂ L₂ c2 m2
        obtain ⟨b₀, L₀, p1, p2, p3⟩ := k.cover b₁ L₁ m1 e1 (by rw [er]; exact f.lt b₂ L₂ m3)
        have p4 : g b₀ ≠ none := by rw [← hsub b₀ (hlow b₀ p2)]; exact p2
        have := f.inj b₀ b₂ L₀ L₂ p4 e2 p1 m3 (by omega)
        subst this
        exact p2 (nox b₀ c2)
      by_cases c1 : b₁.num < X'.next.num
      · by_cases c2 : b₂.num < X'.next.num
        · rw [h1 b₁ c1] at e1
          rw [h1 b₂ c2] at e2
          exact k.hr.inj b₁ b₂ L₁ L₂ e1 e2 m1 m2 er
        · exact (mixed b₁ b₂ L₁ L₂ c1 (by omega) e1 e2 m1 m2 er).elim
      · by_cases c2 : b₂.num < X'.next.num
        · exact (mixed b₂ b₁ L₂ L₁ c2 (by omega) e2 e1 m2 m1 er.symm).elim
        · have c1 : X'.next.num ≤ b₁.num := by omega
          have c2 : X'.next.num ≤ b₂.num := by omega
          rw [h2 b₁ c1] at e1
          rw [h2 b₂ c2] at e2
          exact f.inj b₁ b₂ L₁ L₂ e1 e2 (nofresh _ _ c1 m1) (nofresh _ _ c2 m2) er
    lt := k.hr.lt
    size := Nat.le_trans f.size k.size
    frame := fun r hr hc => by
      rw [k.frame r (Nat.lt_of_lt_of_le hr f.size) (fun b L m1 m2 m3 => ?_), f.frame r hr hc]
      have m4 : g b ≠ none := by rw [← hsub b (hlow b m2)]; exact m2
      obtain ⟨b₀, L₀, p1, p2, p3⟩ := f.cover b L m1 m4 (by omega)
      exact hc b₀ L₀ p1 p2 (by omega)
    cover := fun b L m1 m2 hr => by
      by_cases c : b.num < X'.next.num
      · rw [h1 b c] at m2
        obtain ⟨b₁, L₁, p1, p2, p3⟩ := k.cover b L m1 m2 (Nat.lt_of_lt_of_le hr f.size)
        have p4 : g b₁ ≠ none := by rw [← hsub b₁ (hlow b₁ p2)]; exact p2
        obtain ⟨b₀, L₀, q1, q2, q3⟩ := f.cover b₁ L₁ p1 p4 (by omega)
        exact ⟨b₀, L₀, q1, q2, by omega⟩
      · have c : X'.next.num ≤ b.num := by omega
        rw [h2 b c] at m2
        exact f.cover b L (nofresh b L c m1) m2 hr
    icov := fun x r sh hx hr => by
      rcases k.icov x r sh hx (Nat.lt_of_lt_of_le hr f.size) with ⟨x₀, sh₀, hx₀⟩ | ⟨b₁, L₁, p1, p2, p3⟩
      · exact f.icov x₀ r sh₀ hx₀ hr
      · have p4 : g b₁ ≠ none := by rw [← hsub b₁ (hlow b₁ p2)]; exact p2
        obtain ⟨b₀, L₀, q1, q2, q3⟩ := f.cover b₁ L₁ p1 p4 (by omega)
        exact .inr ⟨b₀, L₀, q1, q2, by omega⟩
    still := fun b hb hn0 => by
      have hup := k.up
      have c : ι b = none := by
        cases q : ι b with
        | none => rfl
        | some L => have := f.fresh b hn0 (by simp [q]); omega
      rw [h1 b (by omega), k.still b (by omega) c, hsub b (by omega), f.still b hb hn0]
    out := f.out.trans k.out }

/-- A block made. -/
theorem FinG.alloc (f : FinG ι₀ H₀ w₀ ι g nx w) {id : Pos} {x : Blk} {L : Loc} {ob : Obj} (hid : ι id = none) (hg : g id = some x) (h0 : H₀.next.num ≤ id.num) (h1 : id.num < nx) (hw : w'.heap = w.heap.push ob) (hL : L.r = w.heap.size)
    (hx : BR (ι.upd id L) x L w') (ho : sameOut w w') : FinG ι₀ H₀ w₀ (ι.upd id L) g nx w' := by
  have hget : ∀ r, r < w.heap.size → w'.heap[r]? = w.heap[r]? := fun r hr => by rw [hw, Array.getElem?_push_lt hr]; simp [hr]
  have old : ∀ b M, b ≠ id → ι.upd id L b = some M → ι b = some M := fun b M hb hM => by rwa [Emb.upd_ne _ _ hb] at hM
  have hsz : w'.heap.size = w.heap.size + 1 := by rw [hw, Array.size_push]
  exact {
    ext := f.ext.trans (Emb.le_upd L hid)
    fresh := fun b e1 e2 => by
      by_cases c : b = id
      · subst c; exact ⟨h0, h1⟩
      · rw [Emb.upd_ne _ _ c] at e2; exact f.fresh b e1 e2
    pro := fun z r sh hz => (f.pro z r sh hz).mono (Emb.le_upd L hid).bare (hget r (f.pro z r sh hz).lt)
    apart := fun b y M z r sh e1 hlive e2 hz => by
      by_cases c : b = id
      · subst c
        rw [Emb.upd_eq] at e2; cases e2
        have := (f.pro z r sh hz).lt
        omega
      · exact f.apart b y M z r sh e1 hlive (old b M c e2) hz
    blk := fun b y M e1 e2 => by
      by_cases c : b = id
      · subst c
        rw [hg] at e1; cases e1
        rw [Emb.upd_eq] at e2; cases e2
        exact hx
      · have e3 := old b M c e2
        exact (f.blk b y M e1 e3).mono (Emb.le_upd L hid) (hget _ (f.lt b M e3))
    inj := fun b₁ b₂ L₁ L₂ e1 e2 m1 m2 er => by
      by_cases c1 : b₁ = id
      · by_cases c2 : b₂ = id
        · rw [c1, c2]
        · exfalso
          subst c1
          rw [Emb.upd_eq] at m1; cases m1
          have := f.lt b₂ L₂ (old _ _ c2 m2)
          omega
      · by_cases c2 : b₂ = id
        · exfalso
          subst c2
          rw [Emb.upd_eq] at m2; cases m2
          have := f.lt b₁ L₁ (old _ _ c1 m1)
          omega
        · exact f.inj b₁ b₂ L₁ L₂ e1 e2 (old _ _ c1 m1) (old _ _ c2 m2) er
    lt := fun b M hM => by
      by_cases c : b = id
      · subst c; rw [Emb.upd_eq] at hM; cases hM; omega
      · have := f.lt b M (old _ _ c hM); omega
    size := by have := f.size; omega
    frame := fun r hr hc => by rw [hget r (Nat.lt_of_lt_of_le hr f.size), f.frame r hr hc]
    cover := fun b M m1 m2 hr => by
      by_cases c : b = id
      · subst c; rw [Emb.upd_eq] at m1; cases m1; have := f.size; omega
      · exact f.cover b M (old _ _ c m1) m2 hr
    icov := f.icov
    still := f.still
    out := f.out.trans ho }

theorem FinG.start (h : HR ι₀ H₀ w₀) (hg : ∀ b, b.num < H₀.next.num → g b = H₀.get b) (hnone : ∀ b, H₀.next.num ≤ b.num → b.num < nx → ι₀ b = none) (hnx : ∀ b, nx ≤ b.num → g b = none) {w1 : World} (hw : w1.heap = w₀.heap) (ho : sameOut w₀ w1) : FinG ι₀ H₀ w₀ ι₀ g nx w1 := by
  have dom : ∀ b L, ι₀ b = some L → g b ≠ none → b.num < H₀.next.num := fun b L h1 h2 => by
    by_cases c : b.num < H₀.next.num
    · exact c
    · by_cases d : b.num < nx
      · rw [hnone b (by omega) d] at h1; cases h1
      · exact absurd (hnx b (by omega)) h2
  exact {
    ext := .refl _
    fresh := fun b h1 h2 => absurd h1 h2
    pro := fun z r sh hz => (h.pro z r sh hz).mono (.refl _) (by rw [hw])
    apart := fun b x L y r sh h1 hlive h2 hy => by
      have c := dom b L h2 (by simp [h1])
      rw [hg b c] at h1
      exact h.apart b x L y r sh h1 hlive h2 hy
    blk := fun b x L h1 h2 => by
      have c := dom b L h2 (by simp [h1])
      rw [hg b c] at h1
      exact (h.blk b x L h1 h2).mono (.refl _) (by rw [hw])
    inj := fun b₁ b₂ L₁ L₂ e1 e2 m1 m2 er => by
      have c1 := dom b₁ L₁ m1 e1
      have c2 := dom b₂ L₂ m2 e2
      rw [hg b₁ c1] at e1
      rw [hg b₂ c2] at e2
      exact h.inj b₁ b₂ L₁ L₂ e1 e2 m1 m2 er
    lt := fun b L hL => by rw [hw]; exact h.lt b L hL
    size := by rw [hw]; exact Nat.le_refl _
    frame := fun r _ _ => by rw [hw]
    cover := fun b L h1 h2 _ => ⟨b, L, h1, by rw [← hg b (dom b L h1 h2)]; exact h2, rfl⟩
    icov := fun x r sh hx _ => .inl ⟨x, sh, hx⟩
    still := fun b hb _ => hg b hb
    out := ho }

theorem FinG.fin (f : FinG ι₀ H₀ w₀ ι g nx w) (hlow : Low X) (hup : H₀.next.num ≤ X.next.num) (hnx : nx = X.next.num) (hsub : ∀ b, b.num < X.next.num → X.get b = g b) : Fin ι₀ H₀ w₀ ι X w where
  ext := f.ext
  fresh b h1 h2 := by have := f.fresh b h1 h2; omega
  hr := f.hr hlow hsub
  up := hup
  size := f.size
  frame := f.frame
  cover b L h1 h2 := f.cover b L h1 (by rw [← hsub b (hlow b h2)]; exact h2)
  icov := f.icov
  still b h1 h2 := by rw [hsub b (by omega), f.still b h1 h2]
  out := f.out
end

/-! ### Memory at each place of the text -/
section
variable (Hs : Nat → Hp)

/-- A block as it is first seen, from one place of the text on. -/
noncomputable def seenAt (b : Pos) : Nat → Nat → Option Blk
  | 0, j => if b.num < (Hs j).next.num then (Hs j).get b else none
  | f + 1, j => if b.num < (Hs j).next.num then (Hs j).get b else seenAt b f (j + 1)
noncomputable def memAt (m c : Nat) (b : Pos) : Option Blk := seenAt Hs b (m - c) c

variable {Hs} {m : Nat}
theorem memAt_here {c : Nat} {b : Pos} (h : b.num < (Hs c).next.num) : memAt Hs m c b = (Hs c).get b := by
  unfold memAt
  cases m - c with
  | zero => unfold seenAt; rw [if_pos h]
  | succ f => unfold seenAt; rw [if_pos h]
theorem memAt_next {c : Nat} {b : Pos} (hc : c < m) (h : (Hs c).next.num ≤ b.num) : memAt Hs m c b = memAt Hs m (c + 1) b := by
  unfold memAt
  rw [show m - c = (m - (c + 1)) + 1 by omega]
  conv => lhs; unfold seenAt
  rw [if_neg (by omega)]
theorem memAt_end {b : Pos} (h : (Hs m).next.num ≤ b.num) : memAt Hs m m b = none := by
  unfold memAt; rw [Nat.sub_self]; unfold seenAt; rw [if_neg (by omega)]

variable (mono : ∀ i, i < m → (Hs i).next.num ≤ (Hs (i + 1)).next.num)
theorem next_le (mono : ∀ i, i < m → (Hs i).next.num ≤ (Hs (i + 1)).next.num) {i : Nat} : ∀ {j : Nat}, i ≤ j → j ≤ m → (Hs i).next.num ≤ (Hs j).next.num
  | j, h1, h2 => by
    induction j with
    | zero => have : i = 0 := by omega
              subst this; exact Nat.le_refl _
    | succ j ih =>
      by_cases e : i = j + 1
      · subst e; exact Nat.le_refl _
      · exact Nat.le_trans (ih (by omega) (by omega)) (mono j (by omega))
theorem memAt_far (mono : ∀ i, i < m → (Hs i).next.num ≤ (Hs (i + 1)).next.num) {c : Nat} {b : Pos} : ∀ {i : Nat}, c ≤ i → i ≤ m → (∀ j, j < i → c ≤ j → (Hs j).next.num ≤ b.num) → memAt Hs m c b = memAt Hs m i b
  | i, h1, h2, h3 => by
    induction i with
    | zero => have : c = 0 := by omega
              subst this; rfl
    | succ i ih =>
      by_cases e : c = i + 1
      · subst e; rfl
      · rw [ih (by omega) (by omega) (fun j hj => h3 j (by omega)), memAt_next (by omega) (h3 i (by omega) (by omega))]
/-- A step that makes one block at most. -/
def Calm (H H' : Hp) : Prop := H' = H ∨ ∃ x, H' = H.new x
theorem Calm.get {H H' : Hp} (h : Calm H H') {b : Pos} (hb : b.num < H.next.num) : H'.get b = H.get b := by
  rcases h with rfl | ⟨x, rfl⟩
  · rfl
  · exact Hp.get_new_ne _ _ fun e => by subst e; omega
theorem Calm.low {H H' : Hp} (h : Calm H H') (hl : Low H) : Low H' := by
  rcases h with rfl | ⟨x, rfl⟩
  · exact hl
  · intro b hb
    rw [Hp.next_new, Pos.num_nxt]
    by_cases e : b = H.next
    · subst e; omega
    · rw [Hp.get_new_ne _ _ e] at hb
      have := hl b hb
      omega
theorem memAt_calm (mono : ∀ i, i < m → (Hs i).next.num ≤ (Hs (i + 1)).next.num) {c : Nat} (hc : c < m) (h : Calm (Hs c) (Hs (c + 1))) (b : Pos) : memAt Hs m c b = memAt Hs m (c + 1) b := by
  by_cases hb : b.num < (Hs c).next.num
  · have := mono c hc
    rw [memAt_here hb, memAt_here (by omega), h.get hb]
  · exact memAt_next hc (by omega)
/-- A stretch without effects. -/
theorem memAt_window (mono : ∀ i, i < m → (Hs i).next.num ≤ (Hs (i + 1)).next.num) {c : Nat} : ∀ {j : Nat}, c ≤ j → j ≤ m → (∀ i, c ≤ i → i < j → Calm (Hs i) (Hs (i + 1))) → Low (Hs c) → Low (Hs j) ∧ ∀ b, memAt Hs m c b = memAt Hs m j b
  | j, h1, h2, h3, h4 => by
    induction j with
    | zero => have : c = 0 := by omega
              subst this; exact ⟨h4, fun _ => rfl⟩
    | succ j ih =>
      by_cases e : c = j + 1
      · subst e; exact ⟨h4, fun _ => rfl⟩
      · obtain ⟨k1, k2⟩ := ih (by omega) (by omega) (fun i a b => h3 i a (by omega))
        exact ⟨(h3 j (by omega) (by omega)).low k1, fun b => (k2 b).trans (memAt_calm mono (by omega) (h3 j (by omega) (by omega)) b)⟩
end
end Go.Fg
/- The ideal machine: the run of a region in the text's order, as a table. -/
namespace Go.Fg

theorem Pos.eq_same : ∀ (p : Pos) {q : Pos}, Pos.eq p q = true → p = q
  | .h, q, e => by cases q <;> first | rfl | (cases e; done)
  | .o p, q, e => by
    cases q with
    | h => cases e
    | i _ => cases e
    | o q => rw [Pos.eq_same p (q := q) e]
  | .i p, q, e => by
    cases q with
    | h => cases e
    | o _ => cases e
    | i q => rw [Pos.eq_same p (q := q) e]

mutual
theorem beqDeep_eq : ∀ (x : IV) {y : IV}, beqDeep x y = true → x = y
  | .b x, y, h => by cases y <;> simp_all [beqDeep]
  | .i k x, y, h => by
    cases y <;> simp [beqDeep, kEq_iff, ieq_eq] at h
    rw [h.1, h.2]
  | .s x, y, h => by
    cases y <;> simp [beqDeep, seq_eq] at h
    rw [h]
  | .p x1 x2, y, h => by
    cases y <;> simp only [beqDeep, Bool.and_eq_true, Bool.false_eq_true] at h
    rw [Pos.eq_same _ h.1, Nat.eq_of_beq_eq_true h.2]
  | .pn, y, h => by cases y <;> simp_all [beqDeep]
  | .sl x1 x2 x3 x4 x5, y, h => by
    cases y <;> simp only [beqDeep, Bool.and_eq_true, Bool.false_eq_true] at h
    rw [Pos.eq_same _ h.1.1.1.1, Nat.eq_of_beq_eq_true h.1.1.1.2, Nat.eq_of_beq_eq_true h.1.1.2, Nat.eq_of_beq_eq_true h.1.2, Nat.eq_of_beq_eq_true h.2]
  | .sn, y, h => by cases y <;> simp_all [beqDeep]
  | .m x, y, h => by
    cases y <;> simp only [beqDeep, Bool.false_eq_true] at h
    rw [Pos.eq_same _ h]
  | .mn, y, h => by cases y <;> simp_all [beqDeep]
  | .f x1 x2, y, h => by
    cases y <;> simp only [beqDeep, Bool.and_eq_true, Bool.false_eq_true] at h
    rw [Pos.eq_same _ h.1, beqDeeps_eq _ h.2]
  | .fn, y, h => by cases y <;> simp_all [beqDeep]
  | .agg x, y, h => by
    cases y <;> simp only [beqDeep, Bool.false_eq_true] at h
    rw [beqDeeps_eq _ h]
  | .tup x, y, h => by
    cases y <;> simp only [beqDeep, Bool.false_eq_true] at h
    rw [beqDeeps_eq _ h]
  | .ic x1 x2, y, h => by
    cases y <;> simp only [beqDeep, Bool.and_eq_true, Bool.false_eq_true] at h
    rw [Nat.eq_of_beq_eq_true h.1, beqDeep_eq _ h.2]
  | .inn, y, h => by cases y <;> simp_all [beqDeep]
  | .pi x, y, h => by
    cases y <;> simp only [beqDeep, Bool.false_eq_true] at h
    rw [beqDeeps_eq _ h]
  | .sli x, y, h => by
    cases y <;> simp only [beqDeep, Bool.false_eq_true] at h
    rw [beqDeepss_eq _ h]
  | .mi x1 x2, y, h => by
    cases y <;> simp only [beqDeep, Bool.and_eq_true, Bool.false_eq_true] at h
    rw [beqDeeps_eq _ h.1, beqDeeps_eq _ h.2]
theorem beqDeeps_eq : ∀ (x : List IV) {y : List IV}, beqDeeps x y = true → x = y
  | [], y, h => by cases y <;> simp_all [beqDeeps]
  | a :: x, y, h => by
    cases y with
    | nil => simp [beqDeeps] at h
    | cons b y =>
      simp only [beqDeeps, Bool.and_eq_true] at h
      rw [beqDeep_eq a h.1, beqDeeps_eq x h.2]
theorem beqDeepss_eq : ∀ (x : List (List IV)) {y : List (List IV)}, beqDeepss x y = true → x = y
  | [], y, h => by cases y <;> simp_all [beqDeepss]
  | a :: x, y, h => by
    cases y with
    | nil => simp [beqDeepss] at h
    | cons b y =>
      simp only [beqDeepss, Bool.and_eq_true] at h
      rw [beqDeeps_eq a h.1, beqDeepss_eq x h.2]
end
theorem beqFlat_eq {x y : IV} (h : beqFlat x y = true) : x = y := by
  unfold beqFlat at h
  split at h
  · obtain ⟨h1, h2⟩ := cond_true h
    rw [(kEq_iff _ _).1 h1]
    rw [ieq_eq] at h2
    rw [eq_of_beq h2]
  · obtain ⟨h1, h2⟩ := cond_true h
    rw [Nat.eq_of_beq_eq_true h1, Pos.eq_same _ h2]
  · obtain ⟨h1, h⟩ := cond_true h
    obtain ⟨h2, h⟩ := cond_true h
    obtain ⟨h3, h⟩ := cond_true h
    obtain ⟨h4, h⟩ := cond_true h
    rw [Nat.eq_of_beq_eq_true h1, Nat.eq_of_beq_eq_true h2, Nat.eq_of_beq_eq_true h3, Nat.eq_of_beq_eq_true h4, Pos.eq_same _ h]
  · rw [Pos.eq_same _ h]
  · rw [seq_eq] at h
    rw [eq_of_beq h]
  · rfl
  · rfl
  · rw [eq_of_beq h]
  · exact beqDeep_eq _ h
theorem beqFlats_eq : ∀ {x y : List IV}, beqFlats x y = true → x = y
  | [], y, h => by cases y <;> first | rfl | (cases h; done)
  | a :: x, y, h => by
    cases y with
    | nil => cases h
    | cons b y =>
      have h : cond (beqFlat a b) (beqFlats x y) false = true := h
      obtain ⟨h1, h2⟩ := cond_true h
      rw [beqFlat_eq h1, beqFlats_eq h2]
theorem beqV_eq {x y : IV} (h : beqV x y = true) : x = y := by
  unfold beqV at h
  split at h
  · rw [beqFlats_eq h]
  · rw [beqFlats_eq h]
  · exact beqFlat_eq h

theorem sameLook_eq {r : Rd} {xs : List IV} {h : Hp} {v : IV} (e : sameLook r xs h v = true) : r.ev xs h = some v := by
  unfold sameLook at e
  split at e
  · rename_i u hu
    rw [hu, beqV_eq e]
  · cases e

theorem seenAgain_mem {bits : Nat} {h : Hp} : ∀ {l : List Seen}, seenAgain bits h l = true → ∀ s ∈ l, Nat.testBit bits s.place = false → s.r.ev s.xs h = some s.v
  | [], _, s, hs, _ => by cases hs
  | s0 :: l, e, s, hs, hb => by
    have e : cond (cond (Nat.testBit bits s0.place) true (sameLook s0.r s0.xs h s0.v)) (seenAgain bits h l) false = true := e
    obtain ⟨e1, e2⟩ := cond_true e
    rcases List.mem_cons.1 hs with rfl | hs
    · rw [hb] at e1
      exact sameLook_eq e1
    · exact seenAgain_mem e2 s hs hb
theorem seenBefore_mem {bits : Nat} {r : Rd} {xs : List IV} {v : IV} : ∀ {l : List (Nat × Hp)}, seenBefore bits r xs v l = true → ∀ e ∈ l, Nat.testBit bits e.1 = false → r.ev xs e.2 = some v
  | [], _, s, hs, _ => by cases hs
  | s0 :: l, e, s, hs, hb => by
    have e : cond (cond (Nat.testBit bits s0.1) true (sameLook r xs s0.2 v)) (seenBefore bits r xs v l) false = true := e
    obtain ⟨e1, e2⟩ := cond_true e
    rcases List.mem_cons.1 hs with rfl | hs
    · rw [hb] at e1
      exact sameLook_eq e1
    · exact seenBefore_mem e2 s hs hb

def consF {α : Type} (x : α) (f : Nat → α) : Nat → α
  | 0 => x
  | n + 1 => f n

/-- The run as a table. -/
structure Table (cf : CallF) (l : List IOper) (n : Nat) (d : DSt) (τs : Nat → Fm) (Hs : Nat → Hp) (vs : Nat → IV) (on : Nat → Bool) : Prop where
  wanted : ∀ i o, l[i]? = some o → on i = wantedI o.guard (τs i)
  frame : ∀ i o, l[i]? = some o → τs (i + 1) = putd (τs i) o.dst (vs i)
  does : ∀ i o, l[i]? = some o → on i = true → exOp cf o.op (τs i) (Hs i) = some (vs i, Hs (i + 1))
  idle : ∀ i o, l[i]? = some o → on i = false → vs i = undefd ∧ Hs (i + 1) = Hs i
  before : ∀ e i oe oi r xs, e < i → l[e]? = some oe → l[i]? = some oi → on e = true → on i = true → isEffect oe.op = true → oi.op = .rd r xs → isR r = true → Nat.testBit oi.bits (n + e) = false → r.ev (evs (τs i) xs) (Hs e) = some (vs i)
  after : ∀ i e oe oi r xs, i < e → l[e]? = some oe → l[i]? = some oi → on e = true → on i = true → isEffect oe.op = true → oi.op = .rd r xs → isR r = true → Nat.testBit oe.bits (n + i) = false → r.ev (evs (τs i) xs) (Hs (e + 1)) = some (vs i)
  looks : ∀ s ∈ d.looks, ∀ e oe, l[e]? = some oe → on e = true → isEffect oe.op = true → Nat.testBit oe.bits s.place = false → s.r.ev s.xs (Hs (e + 1)) = some s.v
  old : ∀ q ∈ d.old, ∀ i oi r xs, l[i]? = some oi → on i = true → oi.op = .rd r xs → isR r = true → Nat.testBit oi.bits q.1 = false → r.ev (evs (τs i) xs) q.2 = some (vs i)

theorem table_cons {cf : CallF} {o : IOper} {l : List IOper} {n : Nat} {d d' : DSt} {τ : Fm} {h h' : Hp} {v : IV} {b : Bool} {τs : Nat → Fm} {Hs : Nat → Hp} {vs : Nat → IV} {on : Nat → Bool} (T : Table cf l (n + 1) d' τs Hs vs on) (e1 : τs 0 = putd τ o.dst v) (e2 : Hs 0 = h')
    (hw : b = wantedI o.guard τ) (hdo : b = true → exOp cf o.op τ h = some (v, h')) (hid : b = false → v = undefd ∧ h' = h)
    (hb : b = true → isEffect o.op = true → (n, h) ∈ d'.old) (ha : b = true → ∀ r xs, o.op = .rd r xs → isR r = true → (⟨n, r, evs τ xs, v⟩ : Seen) ∈ d'.looks)
    (hl : ∀ s ∈ d.looks, s ∈ d'.looks) (hl2 : b = true → isEffect o.op = true → ∀ s ∈ d.looks, Nat.testBit o.bits s.place = false → s.r.ev s.xs h' = some s.v)
    (ho : ∀ q ∈ d.old, q ∈ d'.old) (ho2 : b = true → ∀ r xs, o.op = .rd r xs → isR r = true → ∀ q ∈ d.old, Nat.testBit o.bits q.1 = false → r.ev (evs τ xs) q.2 = some v) :
    Table cf (o :: l) n d (consF τ τs) (consF h Hs) (consF v vs) (consF b on) where
  wanted i o' hi := by
    cases i with
    | zero => simp at hi; subst hi; exact hw
    | succ i => exact T.wanted i o' (by simpa using hi)
  frame i o' hi := by
    cases i with
    | zero => simp at hi; subst hi; exact e1
    | succ i => exact T.frame i o' (by simpa using hi)
  does i o' hi hon := by
    cases i with
    | zero => simp at hi; subst hi; exact (hdo hon).trans (by rw [← e2]; rfl)
    | succ i => exact T.does i o' (by simpa using hi) hon
  idle i o' hi hon := by
    cases i with
    | zero => exact ⟨(hid hon).1, e2.trans (hid hon).2⟩
    | succ i => exact T.idle i o' (by simpa using hi) hon
  before e i oe oi r xs hei he hi hone honi heff hop hr hbit := by
    cases i with
    | zero => omega
    | succ i =>
      cases e with
      | zero =>
        simp at he; subst he
        exact T.old _ (hb hone heff) i oi r xs (by simpa using hi) honi hop hr (by simpa using hbit)
      | succ e => exact T.before e i oe oi r xs (by omega) (by simpa using he) (by simpa using hi) hone honi heff hop hr (by rwa [show n + 1 + e = n + (e + 1) by omega])
  after i e oe oi r xs hie he hi hone honi heff hop hr hbit := by
    cases e with
    | zero => omega
    | succ e =>
      cases i with
      | zero =>
        simp at hi; subst hi
        exact T.looks _ (ha honi r xs hop hr) e oe (by simpa using he) hone heff (by simpa using hbit)
      | succ i => exact T.after i e oe oi r xs (by omega) (by simpa using he) (by simpa using hi) hone honi heff hop hr (by rwa [show n + 1 + i = n + (i + 1) by omega])
  looks s hs e oe he hone heff hbit := by
    cases e with
    | zero =>
      simp at he; subst he
      have := hl2 hone heff s hs hbit
      rw [← e2] at this
      exact this
    | succ e => exact T.looks s (hl s hs) e oe (by simpa using he) hone heff hbit
  old q hq i oi r xs hi honi hop hr hbit := by
    cases i with
    | zero => simp at hi; subst hi; exact ho2 honi r xs hop hr q hq hbit
    | succ i => exact T.old q (ho q hq) i oi r xs (by simpa using hi) honi hop hr hbit

theorem table_of {cf : CallF} : ∀ (l : List IOper) (n : Nat) (d : DSt) (τ : Fm) (h : Hp), exDraw cf l n d τ h ≠ .fail →
    ∃ (τs : Nat → Fm) (Hs : Nat → Hp) (vs : Nat → IV) (on : Nat → Bool), τs 0 = τ ∧ Hs 0 = h ∧ exDraw cf l n d τ h = .nrm (τs l.length) (Hs l.length) ∧ Table cf l n d τs Hs vs on
  | [], n, d, τ, h, hf => ⟨fun _ => τ, fun _ => h, fun _ => undefd, fun _ => false, rfl, rfl, rfl, by constructor <;> simp⟩
  | o :: l, n, d, τ, h, hf => by
    rw [exDraw_cons] at hf ⊢
    cases hw : wantedI o.guard τ with
    | false =>
      rw [hw] at hf
      have hf : exDraw cf l (n + 1) d (putd τ o.dst undefd) h ≠ .fail := hf
      obtain ⟨τs, Hs, vs, on, h1, h2, h3, T⟩ := table_of l (n + 1) d _ _ hf
      refine ⟨consF τ τs, consF h Hs, consF undefd vs, consF false on, rfl, rfl, h3, ?_⟩
      exact table_cons T h1 h2 hw.symm (fun h => by cases h) (fun _ => ⟨rfl, rfl⟩) (fun h => by cases h) (fun h => by cases h) (fun s hs => hs) (fun h => by cases h) (fun q hq => hq) (fun h => by cases h)
    | true =>
      rw [hw] at hf
      have hf : drawThen (exDraw cf l (n + 1)) n o d τ h (exOp cf o.op τ h) ≠ .fail := hf
      show ∃ (τs : Nat → Fm) (Hs : Nat → Hp) (vs : Nat → IV) (on : Nat → Bool), τs 0 = τ ∧ Hs 0 = h ∧ drawThen (exDraw cf l (n + 1)) n o d τ h (exOp cf o.op τ h) = .nrm (τs (o :: l).length) (Hs (o :: l).length) ∧ Table cf (o :: l) n d τs Hs vs on
      cases hx : exOp cf o.op τ h with
      | none => rw [hx] at hf; exact absurd rfl hf
      | some q =>
        obtain ⟨v, h'⟩ := q
        rw [hx] at hf
        unfold drawThen at hf ⊢
        simp only [] at hf ⊢
        cases hd : drawSt n o.bits o.op τ h v h' d with
        | none => rw [hd] at hf; exact absurd rfl hf
        | some d' =>
          rw [hd] at hf
          simp only [] at hf ⊢
          obtain ⟨τs, Hs, vs, on, h1, h2, h3, T⟩ := table_of l (n + 1) d' _ _ hf
          refine ⟨consF τ τs, consF h Hs, consF v vs, consF true on, rfl, rfl, h3, ?_⟩
          have eff : isEffect o.op = true → seenAgain o.bits h' d.looks = true ∧ d' = ⟨d.looks, (n, h) :: d.old⟩ := fun he => by
            unfold drawSt at hd
            split at hd
            · rename_i e; rw [e] at he; cases he
            · rename_i e; rw [e] at he; cases he
            · obtain ⟨k1, k2⟩ := cond_some hd
              exact ⟨k1, by cases k2; rfl⟩
          have look : ∀ r xs, o.op = .rd r xs → isR r = true → seenBefore o.bits r (evs τ xs) v d.old = true ∧ d' = ⟨⟨n, r, evs τ xs, v⟩ :: d.looks, d.old⟩ := fun r xs hop hr => by
            rw [hop] at hd
            have hd : drawRd n o.bits r (evs τ xs) v d = some d' := hd
            unfold drawRd at hd
            rw [hr] at hd
            obtain ⟨k1, k2⟩ := cond_some hd
            exact ⟨k1, by cases k2; rfl⟩
          have keeps : (∀ s ∈ d.looks, s ∈ d'.looks) ∧ (∀ q ∈ d.old, q ∈ d'.old) := by
            unfold drawSt at hd
            split at hd
            · unfold drawRd at hd
              rename_i r xs _
              cases hr : isR r with
              | true =>
                rw [hr] at hd
                obtain ⟨k1, k2⟩ := cond_some hd
                cases k2
                exact ⟨fun s hs => List.mem_cons_of_mem _ hs, fun q hq => hq⟩
              | false => rw [hr] at hd; cases hd; exact ⟨fun s hs => hs, fun q hq => hq⟩
            · cases hd; exact ⟨fun s hs => hs, fun q hq => hq⟩
            · obtain ⟨k1, k2⟩ := cond_some hd
              cases k2
              exact ⟨fun s hs => hs, fun q hq => List.mem_cons_of_mem _ hq⟩
          exact table_cons T h1 h2 hw.symm (fun _ => hx) (fun h => by cases h) (fun _ he => by rw [(eff he).2]; exact List.mem_cons_self ..) (fun _ r xs hop hr => by rw [(look r xs hop hr).2]; exact List.mem_cons_self ..)
            keeps.1 (fun _ he s hs hb => seenAgain_mem (eff he).1 s hs hb) keeps.2 (fun _ r xs hop hr q hq hb => seenBefore_mem (look r xs hop hr).1 q hq hb)
end Go.Fg
/- The ideal machine: regions whose order is open are sound. -/
namespace Go.Fg

theorem Fm.at_putd (τ : Fm) (d : Option Pos) (v : IV) (p : Pos) : Fm.at (putd τ d v) p = if d = some p then v else Fm.at τ p := by
  cases d with
  | none => simp; rfl
  | some t =>
    by_cases e : t = p
    · subst e; rw [if_pos rfl]; exact Fm.at_putd_eq _ _ _
    · rw [if_neg (fun h => e (by simpa using h))]; exact Fm.at_putd_ne _ _ (Ne.symm e)

def dstAt (l : List IOper) (i : Nat) : Option Pos := (l[i]?).bind (·.dst)

/-- The frame when the operations of D have run. -/
noncomputable def foldD (l : List IOper) (τ : Fm) (vs : Nat → IV) (D : Nat → Bool) : Nat → Fm
  | 0 => τ
  | i + 1 => if D i = true then putd (foldD l τ vs D i) (dstAt l i) (vs i) else foldD l τ vs D i

section
variable {l : List IOper} {τs : Nat → Fm} {vs : Nat → IV} {D D' : Nat → Bool}

theorem foldD_same {i : Nat} {p : Pos} : ∀ {n : Nat}, i ≤ n → (∀ j, i ≤ j → j < n → D j = true → dstAt l j ≠ some p) → Fm.at (foldD l (τs 0) vs D n) p = Fm.at (foldD l (τs 0) vs D i) p
  | n, h1, h2 => by
    induction n with
    | zero => have : i = 0 := by omega
              subst this; rfl
    | succ n ih =>
      by_cases e : i = n + 1
      · subst e; rfl
      · have ih := ih (by omega) (fun j a b => h2 j a (by omega))
        conv => lhs; unfold foldD
        by_cases hd : D n = true
        · rw [if_pos hd, Fm.at_putd, if_neg (h2 n (by omega) (by omega) hd), ih]
        · rw [if_neg hd, ih]

theorem foldD_text (hfr : ∀ i, i < l.length → τs (i + 1) = putd (τs i) (dstAt l i) (vs i)) {p : Pos} : ∀ {i : Nat}, i ≤ l.length → (∀ j, j < i → dstAt l j = some p → D j = true) → Fm.at (foldD l (τs 0) vs D i) p = Fm.at (τs i) p
  | 0, _, _ => rfl
  | i + 1, h1, h2 => by
    have ih := foldD_text hfr (p := p) (i := i) (by omega) (fun j a => h2 j (by omega))
    rw [hfr i (by omega), Fm.at_putd]
    conv => lhs; unfold foldD
    by_cases hd : D i = true
    · rw [if_pos hd, Fm.at_putd, ih]
    · rw [if_neg hd, ih, if_neg (fun h => hd (h2 i (by omega) h))]

theorem foldD_other {i : Nat} {p : Pos} (hD : ∀ j, j ≠ i → D' j = D j) (hp : dstAt l i ≠ some p) : ∀ n, Fm.at (foldD l (τs 0) vs D' n) p = Fm.at (foldD l (τs 0) vs D n) p
  | 0 => rfl
  | n + 1 => by
    have ih := foldD_other hD hp n
    unfold foldD
    by_cases e : n = i
    · subst e
      have : ∀ (b : Bool) (τ : Fm), Fm.at (if b = true then putd τ (dstAt l n) (vs n) else τ) p = Fm.at τ p := fun b τ => by
        cases b
        · rfl
        · rw [if_pos rfl, Fm.at_putd, if_neg hp]
      rw [this, this, ih]
    · rw [hD n e]
      by_cases hd : D n = true
      · rw [if_pos hd, if_pos hd, Fm.at_putd, Fm.at_putd, ih]
      · rw [if_neg hd, if_neg hd, ih]
end

/-- What is known of a region. -/
structure Reg (P : Program) (cf : CallF) (nt : Nat) (ops : Array Oper) (l : List IOper) (τs : Nat → Fm) (Hs : Nat → Hp) (vs : Nat → IV) (on : Nat → Bool) : Prop where
  hcf : CSim P cf
  hup : CUp cf
  hnt : nt ≤ 100000
  len : l.length = ops.size
  T : Table cf l 0 ⟨[], []⟩ τs Hs vs on
  pair : ∀ x y ox oy, x < y → l[x]? = some ox → l[y]? = some oy → pairOk x ox oy = true
  aft : ∀ i o, ops[i]? = some o → afterOk i o = true
  comp : ∀ i o, ops[i]? = some o → ∃ io, l[i]? = some io ∧ guardOf ops o.guard = some io.guard ∧ io.dst = o.dst.map pos ∧ (∀ d, o.dst = some d → d < nt) ∧ io.op = (compOp P o).getD .bad ∧ io.bits = (Region.before ops).getD i 0

/-- How things stand when the operations of D have run: the last effect among them is the one before c. -/
structure Inv (nt : Nat) (ops : Array Oper) (l : List IOper) (τs : Nat → Fm) (Hs : Nat → Hp) (vs : Nat → IV) (on : Nat → Bool) (ι₀ : Emb) (w₀ : World) (D : Nat → Bool) (c : Nat) (ι : Emb) (a : Act) (w : World) : Prop where
  closed : ∀ i j, D i = true → ((Region.before ops).getD i 0).testBit j = true → D j = true
  tr : TR ι (foldD l (τs 0) vs D l.length) a
  asz : nt ≤ a.tmps.size
  adef : a.defers = []
  cm : c ≤ l.length
  c1 : ∀ i o, i < c → l[i]? = some o → on i = true → isEffect o.op = true → D i = true
  c2 : ∀ i o, c ≤ i → l[i]? = some o → on i = true → isEffect o.op = true → D i = false
  c3 : c = 0 ∨ ∃ e o, c = e + 1 ∧ l[e]? = some o ∧ on e = true ∧ isEffect o.op = true ∧ D e = true
  low : Low (Hs c)
  free : ∀ i, i < l.length → D i = false → Free ι (Hs i) (Hs (i + 1))
  pend : ∀ j, j < c → D j = false → ∀ b : Pos, (Hs j).next.num ≤ b.num → b.num < (Hs (j + 1)).next.num → (Hs c).get b = (Hs (j + 1)).get b
  mem : FinG ι₀ (Hs 0) w₀ ι (memAt Hs l.length c) (Hs l.length).next.num w

section
variable {P : Program} {cf : CallF} {nt : Nat} {ops : Array Oper} {l : List IOper} {τs : Nat → Fm} {Hs : Nat → Hp} {vs : Nat → IV} {on : Nat → Bool}
variable {ι₀ : Emb} {w₀ : World} {D : Nat → Bool} {c : Nat} {ι : Emb} {a : Act} {w : World}

theorem Reg.mono (R : Reg P cf nt ops l τs Hs vs on) : ∀ i, i < l.length → (Hs i).next.num ≤ (Hs (i + 1)).next.num := fun i hi => by
  have hl : l[i]? = some l[i] := List.getElem?_eq_getElem hi
  cases h : on i with
  | true => exact exOp_up R.hup (R.T.does i _ hl h)
  | false => rw [(R.T.idle i _ hl h).2]; omega

/-- What is no effect makes one block at most. -/
theorem Reg.calm (R : Reg P cf nt ops l τs Hs vs on) {i : Nat} {o : IOper} (hl : l[i]? = some o) (h : on i = false ∨ isEffect o.op = false) : Calm (Hs i) (Hs (i + 1)) := by
  cases hon : on i with
  | false => exact .inl (R.T.idle i _ hl hon).2
  | true =>
    have he : isEffect o.op = false := by rcases h with h | h
                                          · rw [hon] at h; cases h
                                          · exact h
    have hx := R.T.does i _ hl hon
    cases hop : o.op with
    | rd r xs =>
      rw [hop] at hx
      have hx : exRd r (evs (τs i) xs) (Hs i) = _ := hx
      unfold exRd at hx
      split at hx
      · injection hx with hx
        injection hx with _ hx
        exact .inl hx.symm
      · cases hx
    | al r xs =>
      rw [hop] at hx
      have hx : exAl r (evs (τs i) xs) (Hs i) = _ := hx
      unfold exAl at hx
      split at hx
      · rename_i x v _
        injection hx with hx
        injection hx with _ hx
        exact .inr ⟨x, hx.symm⟩
      · cases hx
    | ef _ _ => rw [hop] at he; cases he
    | call _ _ => rw [hop] at he; cases he
    | bad => rw [hop] at he; cases he

theorem Inv.calm (R : Reg P cf nt ops l τs Hs vs on) (I : Inv nt ops l τs Hs vs on ι₀ w₀ D c ι a w) {j : Nat} (hj : j ≤ l.length) (hw : ∀ i o, c ≤ i → i < j → l[i]? = some o → on i = true → isEffect o.op = true → False) : ∀ i, c ≤ i → i < j → Calm (Hs i) (Hs (i + 1)) := fun i h1 h2 => by
  have hl : l[i]? = some l[i] := List.getElem?_eq_getElem (by omega)
  refine R.calm hl ?_
  cases hon : on i with
  | false => exact .inl rfl
  | true =>
    cases he : isEffect l[i].op with
    | false => exact .inr rfl
    | true => exact (hw i _ h1 h2 hl hon he).elim

/-- Memory of the text at a place that no effect parts from the last effect. -/
theorem Inv.window (R : Reg P cf nt ops l τs Hs vs on) (I : Inv nt ops l τs Hs vs on ι₀ w₀ D c ι a w) {j : Nat} (h1 : c ≤ j) (hj : j ≤ l.length) (hw : ∀ i o, c ≤ i → i < j → l[i]? = some o → on i = true → isEffect o.op = true → False) :
    Low (Hs j) ∧ (∀ b, memAt Hs l.length c b = memAt Hs l.length j b) ∧ (∀ b : Pos, b.num < (Hs j).next.num → (Hs j).get b = memAt Hs l.length c b) ∧ HR ι (Hs j) w := by
  obtain ⟨k1, k2⟩ := memAt_window R.mono h1 hj (I.calm R hj hw) I.low
  have k3 : ∀ b : Pos, b.num < (Hs j).next.num → (Hs j).get b = memAt Hs l.length c b := fun b hb => by rw [k2 b, memAt_here hb]
  exact ⟨k1, k2, k3, I.mem.hr k1 k3⟩

/-- What an operation that may run now looks at. -/
theorem Inv.sees (R : Reg P cf nt ops l τs Hs vs on) (I : Inv nt ops l τs Hs vs on ι₀ w₀ D c ι a w) {i : Nat} {io : IOper} (hl : l[i]? = some io) (hD : D i = false) (hbits : ∀ j, Nat.testBit io.bits j = true → D j = true)
    (hb : ∀ j o, l[j]? = some o → D j = true → Nat.testBit o.bits i = false) {p : Pos} (hp : p ∈ looksAt io) : Fm.at (foldD l (τs 0) vs D l.length) p = Fm.at (τs i) p := by
  have hi := (List.getElem?_eq_some_iff.1 hl).1
  have hfr : ∀ i, i < l.length → τs (i + 1) = putd (τs i) (dstAt l i) (vs i) := fun k hk => by
    have hlk : l[k]? = some l[k] := List.getElem?_eq_getElem hk
    rw [R.T.frame k _ hlk]; unfold dstAt; rw [hlk]; rfl
  rw [foldD_same (i := i) (by omega), foldD_text hfr (by omega)]
  · intro j hj hd
    have hlj : l[j]? = some l[j] := List.getElem?_eq_getElem (by omega)
    unfold dstAt at hd
    rw [hlj] at hd
    have hd : l[j].dst = some p := hd
    have := R.pair j i _ _ hj hlj hl
    unfold pairOk at this
    rw [Bool.or_eq_true] at this
    rcases this with h | h
    · exact hbits j h
    · rw [hd] at h
      simp only [Bool.and_eq_true, Bool.not_eq_true'] at h
      rw [hasP_mem.2 hp] at h
      exact absurd h.1.1.1 (by simp)
  · intro j h1 h2 hDj hd
    by_cases e : j = i
    · subst e; rw [hD] at hDj; cases hDj
    · have hlj : l[j]? = some l[j] := List.getElem?_eq_getElem h2
      unfold dstAt at hd
      rw [hlj] at hd
      have hd : l[j].dst = some p := hd
      have := R.pair i j _ _ (by omega) hl hlj
      unfold pairOk at this
      rw [Bool.or_eq_true] at this
      rcases this with h | h
      · rw [hb j _ hlj hDj] at h; cases h
      · rw [hd] at h
        simp only [Bool.and_eq_true, Bool.not_eq_true'] at h
        rw [hasP_mem.2 hp] at h
        exact absurd h.1.2 (by simp)

def add (D : Nat → Bool) (i : Nat) : Nat → Bool := fun j => D j || j == i
theorem add_eq (D : Nat → Bool) (i : Nat) : add D i i = true := by simp [add]
theorem add_ne (D : Nat → Bool) {i j : Nat} (h : j ≠ i) : add D i j = D j := by simp [add, h]

theorem add_bits (I : Inv nt ops l τs Hs vs on ι₀ w₀ D c ι a w) {i : Nat} (hbits : ∀ j, ((Region.before ops).getD i 0).testBit j = true → D j = true) : ∀ k j, add D i k = true → ((Region.before ops).getD k 0).testBit j = true → add D i j = true := fun k j hk hj => by
  by_cases e : k = i
  · subst e
    have := hbits j hj
    simp [add, this]
  · rw [add_ne D e] at hk
    have := I.closed k j hk hj
    simp [add, this]

/-- The frame after one more operation. -/
theorem Inv.put (R : Reg P cf nt ops l τs Hs vs on) (I : Inv nt ops l τs Hs vs on ι₀ w₀ D c ι a w) {i : Nat} {o : Oper} {io : IOper} (hl : l[i]? = some io) (hD : D i = false) (hdst : io.dst = o.dst.map pos) (hd : ∀ d, o.dst = some d → d < nt)
    (hb : ∀ j o, l[j]? = some o → D j = true → Nat.testBit o.bits i = false) {ι' : Emb} (hle : ι.le ι') {v' : Value} (hv : VR ι' (vs i) v') :
    TR ι' (foldD l (τs 0) vs (add D i) l.length) (a.put o.dst v') ∧ nt ≤ (a.put o.dst v').tmps.size ∧ (a.put o.dst v').defers = [] := by
  have hi := (List.getElem?_eq_some_iff.1 hl).1
  have hda : dstAt l i = io.dst := by unfold dstAt; rw [hl]; rfl
  have hput : TR ι' (putd (foldD l (τs 0) vs D l.length) io.dst (vs i)) (a.put o.dst v') := by
    rw [hdst]
    cases hod : o.dst with
    | none => exact I.tr.mono hle
    | some d =>
      have h1 := hd d hod
      have h2 := I.asz
      have h3 := R.hnt
      exact (I.tr.mono hle).put (Nat.lt_of_lt_of_le h1 h2) (Nat.lt_of_lt_of_le h1 (by omega)) hv
  refine ⟨fun t ht => ?_, ?_, ?_⟩
  · have := hput t ht
    rw [Fm.at_putd] at this
    by_cases e : io.dst = some (pos t)
    · rw [if_pos e] at this
      have h1 : Fm.at (foldD l (τs 0) vs (add D i) l.length) (pos t) = vs i := by
        rw [foldD_same (i := i + 1) (by omega)]
        · unfold foldD
          rw [if_pos (add_eq D i), Fm.at_putd, if_pos (by rw [hda, e])]
        · intro j h1 h2 h3 h4
          rw [add_ne D (by omega)] at h3
          have hlj : l[j]? = some l[j] := List.getElem?_eq_getElem h2
          have h4 : l[j].dst = some (pos t) := by unfold dstAt at h4; rw [hlj] at h4; exact h4
          have := R.pair i j _ _ (by omega) hl hlj
          unfold pairOk at this
          rw [Bool.or_eq_true, hb j _ hlj h3, e, h4] at this
          simp at this
      rw [h1]
      exact this
    · rw [if_neg e] at this
      rw [foldD_other (i := i) (fun j hj => add_ne D hj) (by rw [hda]; exact e)]
      exact this
  · cases o.dst with
    | none => exact I.asz
    | some d => simpa [Act.put] using I.asz
  · cases o.dst with
    | none => exact I.adef
    | some d => simpa [Act.put] using I.adef

/-- An operation that is no effect has run. -/
theorem Inv.step (R : Reg P cf nt ops l τs Hs vs on) (I : Inv nt ops l τs Hs vs on ι₀ w₀ D c ι a w) {i : Nat} {io : IOper} (hl : l[i]? = some io) (hD : D i = false) (hbits : ∀ j, ((Region.before ops).getD i 0).testBit j = true → D j = true)
    (he : on i = false ∨ isEffect io.op = false) {ι' : Emb} {a' : Act} {w' : World} (ht : TR ι' (foldD l (τs 0) vs (add D i) l.length) a' ∧ nt ≤ a'.tmps.size ∧ a'.defers = [])
    (hfree : ∀ b : Pos, ι b = none → ι' b ≠ none → (Hs i).next.num ≤ b.num ∧ b.num < (Hs (i + 1)).next.num) (hm : FinG ι₀ (Hs 0) w₀ ι' (memAt Hs l.length c) (Hs l.length).next.num w') :
    Inv nt ops l τs Hs vs on ι₀ w₀ (add D i) c ι' a' w' where
  closed := add_bits I hbits
  tr := ht.1
  asz := ht.2.1
  adef := ht.2.2
  cm := I.cm
  c1 j o h1 h2 h3 h4 := by
    have := I.c1 j o h1 h2 h3 h4
    simp [add, this]
  c2 j o h1 h2 h3 h4 := by
    by_cases e : j = i
    · subst e
      rw [hl] at h2; cases h2
      rcases he with he | he
      · rw [h3] at he; cases he
      · rw [h4] at he; cases he
    · rw [add_ne D e]; exact I.c2 j o h1 h2 h3 h4
  c3 := by
    rcases I.c3 with h | ⟨e, o, h1, h2, h3, h4, h5⟩
    · exact .inl h
    · exact .inr ⟨e, o, h1, h2, h3, h4, by simp [add, h5]⟩
  low := I.low
  free j hj hDj b h1 h2 := by
    have hji : j ≠ i := fun e => by subst e; rw [add_eq] at hDj; cases hDj
    rw [add_ne D hji] at hDj
    cases q : ι' b with
    | none => rfl
    | some L =>
      have h0 := I.free j hj hDj b h1 h2
      have h3 := hfree b h0 (by simp [q])
      have hi := (List.getElem?_eq_some_iff.1 hl).1
      rcases Nat.lt_or_gt_of_ne hji with h | h
      · have := next_le R.mono (i := j + 1) (j := i) (by omega) (by omega); omega
      · have := next_le R.mono (i := i + 1) (j := j) (by omega) (by omega); omega
  pend j hj hDj := by
    have hji : j ≠ i := fun e => by subst e; rw [add_eq] at hDj; cases hDj
    rw [add_ne D hji] at hDj
    exact I.pend j hj hDj
  mem := hm

/-- One operation that may run now, runs. -/
theorem Inv.run (R : Reg P cf nt ops l τs Hs vs on) (I : Inv nt ops l τs Hs vs on ι₀ w₀ D c ι a w) {i : Nat} {o : Oper} (hi : ops[i]? = some o) (hD : D i = false) (hready : ∀ e ∈ o.after.toList, Region.binds .any e = true → D e.on = true)
    {K : Act → World → Prop} {Q : Exit → Act → World → Prop} (hK : ∀ c' ι' a' w', Inv nt ops l τs Hs vs on ι₀ w₀ (add D i) c' ι' a' w' → K a' w') : wpOp P ops Q i K a w := by
  obtain ⟨io, hl, g1, g2, g3, g4, g5⟩ := R.comp i o hi
  have him := (List.getElem?_eq_some_iff.1 hl).1
  have hbits : ∀ j, ((Region.before ops).getD i 0).testBit j = true → D j = true := fun j hj => by
    obtain ⟨e, h1, h2, h3⟩ := before_spec hi hj
    have := hready e h1 h2
    rcases h3 with h3 | h3
    · rw [← h3]; exact this
    · exact I.closed _ _ this h3
  have hb : ∀ j o', l[j]? = some o' → D j = true → Nat.testBit o'.bits i = false := fun j o' hj hDj => by
    have hjm := (List.getElem?_eq_some_iff.1 hj).1
    obtain ⟨io2, p1, _, _, _, _, p6⟩ := R.comp j (ops[j]'(by have := R.len; omega)) (Array.getElem?_eq_getElem _)
    rw [hj] at p1; cases p1
    cases q : Nat.testBit o'.bits i with
    | false => rfl
    | true =>
      rw [p6] at q
      have := I.closed j i hDj q
      rw [hD] at this; cases this
  have hsees := fun {p : Pos} (hp : p ∈ looksAt io) => I.sees R hl hD (fun j hj => hbits j (by rw [← g5]; exact hj)) hb hp
  unfold wpOp
  rw [hi]
  simp only []
  rw [wanted_sound I.tr g1, wantedI_congr (τ' := τs i) (fun p hp => hsees (List.mem_append_left _ hp)), ← R.T.wanted i io hl]
  cases hon : on i with
  | false =>
    simp only [Bool.false_eq_true, if_false]
    have hv := (R.T.idle i io hl hon).1
    refine hK c ι _ w (I.step R hl hD hbits (.inl hon) (I.put R hl hD g2 g3 hb (.refl _) (by rw [hv]; exact vr_undef ι)) (fun b h1 h2 => absurd h1 h2) I.mem)
  | true =>
    simp only [if_true]
    refine .inl ?_
    have hx := R.T.does i io hl hon
    have hc : compOp P o = some io.op := by
      cases hco : compOp P o with
      | none => rw [hco] at g4; rw [g4] at hx; cases hx
      | some q => rw [hco] at g4; rw [g4]; rfl
    have hcong : ∀ X, exOp cf io.op (foldD l (τs 0) vs D l.length) X = exOp cf io.op (τs i) X := fun X => exOp_congr fun p hp => hsees (List.mem_append_right _ hp)
    have effect : isEffect io.op = true → o.wp P a w K Q := fun heff => by
      have hci : c ≤ i := by
        rcases Nat.lt_or_ge i c with h | h
        · have := I.c1 i io h hl hon heff
          rw [hD] at this; cases this
        · exact h
      have hno : ∀ j oj, c ≤ j → j < i → l[j]? = some oj → on j = true → isEffect oj.op = true → False := fun j oj h1 h2 h3 h4 h5 => by
        have h6 := I.c2 j oj h1 h3 h4 h5
        have := R.pair j i oj io h2 h3 hl
        unfold pairOk at this
        rw [h5, heff, Bool.or_eq_true] at this
        rcases this with h | h
        · rw [g5] at h
          rw [hbits j h] at h6; cases h6
        · simp at h
      obtain ⟨q1, q2, q3, q4⟩ := I.window R hci (by omega) hno
      refine op_step R.hcf I.tr q4 hc (by rw [hcong]; exact hx) (I.free i him hD) fun v' w' ι' k1 k2 => ?_
      have ht := I.put R hl hD g2 g3 hb k2.ext k1
      refine hK (i + 1) ι' _ w' {
        closed := add_bits I hbits
        tr := ht.1
        asz := ht.2.1
        adef := ht.2.2
        cm := him
        c1 := fun j oj h1 h2 h3 h4 => by
          by_cases e : j = i
          · subst e; exact add_eq D j
          · by_cases e2 : j < c
            · have := I.c1 j oj e2 h2 h3 h4
              simp [add, this]
            · exact (hno j oj (by omega) (by omega) h2 h3 h4).elim
        c2 := fun j oj h1 h2 h3 h4 => by
          rw [add_ne D (by omega)]
          exact I.c2 j oj (by omega) h2 h3 h4
        c3 := .inr ⟨i, io, rfl, hl, hon, heff, add_eq D i⟩
        low := k2.hr.low
        free := fun j hj hDj b h1 h2 => by
          have hji : j ≠ i := fun e => by subst e; rw [add_eq] at hDj; cases hDj
          rw [add_ne D hji] at hDj
          cases q : ι' b with
          | none => rfl
          | some L =>
            have h0 := I.free j hj hDj b h1 h2
            have h3 := k2.fresh b h0 (by simp [q])
            rcases Nat.lt_or_gt_of_ne hji with h | h
            · have := next_le R.mono (i := j + 1) (j := i) (by omega) (by omega); omega
            · have := next_le R.mono (i := i + 1) (j := j) (by omega) (by omega); omega
        pend := fun j hj hDj b h1 h2 => by
          have hji : j ≠ i := fun e => by subst e; rw [add_eq] at hDj; cases hDj
          rw [add_ne D hji] at hDj
          have hle := next_le R.mono (i := j + 1) (j := i) (by omega) (by omega)
          rw [k2.still b (by omega) (I.free j (by omega) hDj b h1 h2), q3 b (by omega)]
          by_cases e : j < c
          · have := next_le R.mono (i := j + 1) (j := c) (by omega) I.cm
            rw [memAt_here (by omega), I.pend j e hDj b h1 h2]
          · obtain ⟨_, _, r3, _⟩ := I.window R (j := j + 1) (by omega) (by omega) (fun q oq a1 a2 => hno q oq a1 (by omega))
            rw [r3 b h2]
        mem := I.mem.eff q1 q3 (next_le R.mono (by omega) (by omega)) k2 (fun b hb => memAt_here hb) (fun b hb => by
          have := R.mono i him
          rw [q2 b, memAt_next him (by omega)]) (next_le R.mono (by omega) (by omega)) }
    cases hop : io.op with
    | bad => rw [hop] at hx; cases hx
    | rd r xs =>
      rw [hop] at hx hc
      -- a memory where the look sees what it saw in the text
      obtain ⟨X, hX1, hX2⟩ : ∃ X, HR ι X w ∧ r.ev (evs (τs i) xs) X = some (vs i) := by
        have hx' : exRd r (evs (τs i) xs) (Hs i) = some (vs i, Hs (i + 1)) := hx
        have hev : r.ev (evs (τs i) xs) (Hs i) = some (vs i) := by
          unfold exRd at hx'
          split at hx'
          · rename_i v hv; rw [hv]; injection hx' with hx'; injection hx' with h1 _; rw [h1]
          · cases hx'
        have here := (I.window R (Nat.le_refl c) I.cm (fun k _ h1 h2 => by omega)).2.2.2
        cases hr : isR r with
        | false => exact ⟨Hs c, here, by rw [rd_plain hr _ _ (Hs i)]; exact hev⟩
        | true =>
          by_cases hci : i < c
          · -- an effect of later on has run
            rcases I.c3 with h | ⟨e, oe, h1, h2, h3, h4, h5⟩
            · omega
            · have hei : i ≠ e := fun h => by subst h; rw [hD] at h5; cases h5
              subst h1
              exact ⟨_, here, R.T.after i e oe io r xs (by omega) h2 hl h3 hon h4 hop hr (by rw [Nat.zero_add]; exact hb e oe h2 h5)⟩
          · -- the first effect that has not run, if there is one before the look
            have first : ∀ k, c ≤ k → k ≤ i → (∀ q oq, c ≤ q → q < k → l[q]? = some oq → on q = true → isEffect oq.op = true → False) ∨
                ∃ e oe, c ≤ e ∧ e < k ∧ l[e]? = some oe ∧ on e = true ∧ isEffect oe.op = true ∧ (∀ q oq, c ≤ q → q < e → l[q]? = some oq → on q = true → isEffect oq.op = true → False) := by
              intro k
              induction k with
              | zero => intro h1 h2; exact .inl fun q oq h3 h4 => by omega
              | succ k ih =>
                intro h1 h2
                by_cases hck : c = k + 1
                · exact .inl fun q oq h3 h4 => by omega
                · rcases ih (by omega) (by omega) with h | ⟨e, oe, q1, q2, q3⟩
                  · have hlk : l[k]? = some l[k] := List.getElem?_eq_getElem (by omega)
                    cases hk1 : on k with
                    | false =>
                      exact .inl fun q oq h3 h4 h5 h6 h7 => by
                        by_cases e : q = k
                        · subst e; rw [hk1] at h6; cases h6
                        · exact h q oq h3 (by omega) h5 h6 h7
                    | true =>
                      cases hk2 : isEffect l[k].op with
                      | false =>
                        exact .inl fun q oq h3 h4 h5 h6 h7 => by
                          by_cases e : q = k
                          · subst e; rw [hlk] at h5; cases h5; rw [hk2] at h7; cases h7
                          · exact h q oq h3 (by omega) h5 h6 h7
                      | true => exact .inr ⟨k, _, by omega, by omega, hlk, hk1, hk2, h⟩
                  · exact .inr ⟨e, oe, q1, by omega, q3⟩
            rcases first i (by omega) (Nat.le_refl _) with h | ⟨e, oe, h1, h2, h3, h4, h5, h6⟩
            · exact ⟨Hs i, (I.window R (by omega) (by omega) h).2.2.2, hev⟩
            · have hDe := I.c2 e oe h1 h3 h4 h5
              refine ⟨Hs e, (I.window R h1 (by omega) h6).2.2.2, R.T.before e i oe io r xs h2 h3 hl h4 hon h5 hop hr ?_⟩
              rw [Nat.zero_add]
              cases q : Nat.testBit io.bits e with
              | false => rfl
              | true => rw [g5] at q; rw [hbits e q] at hDe; cases hDe
      have hx2 : exOp cf (.rd r xs) (foldD l (τs 0) vs D l.length) X = some (vs i, X) := by
        rw [hop] at hcong
        rw [hcong]
        show exRd r (evs (τs i) xs) X = _
        unfold exRd
        rw [hX2]
      obtain ⟨v', k1, k2⟩ := rd_sound (P := P) I.tr hX1 hc (show r.ev (evs (foldD l (τs 0) vs D l.length) xs) X = some (vs i) from by
        have : exRd r (evs (foldD l (τs 0) vs D l.length) xs) X = some (vs i, X) := hx2
        unfold exRd at this
        split at this
        · rename_i v hv; rw [hv]; injection this with this; injection this with h1 _; rw [h1]
        · cases this)
      unfold Oper.wp
      rw [k1]
      exact hK c ι _ w (I.step R hl hD hbits (.inr (by rw [hop]; rfl)) (I.put R hl hD g2 g3 hb (.refl _) k2) (fun b h1 h2 => absurd h1 h2) I.mem)
    | al al xs =>
      have hsame : evs (foldD l (τs 0) vs D l.length) xs = evs (τs i) xs := evs_congr fun p hp => hsees (List.mem_append_right _ (by rw [hop]; exact hp))
      rw [hop] at hx hc
      have hx : exAl al (evs (τs i) xs) (Hs i) = some (vs i, Hs (i + 1)) := hx
      unfold exAl at hx
      split at hx
      · rename_i x v hev
        injection hx with hx
        injection hx with hx1 hx2
        rw [hx1] at hev
        obtain ⟨v', w', L, ob, k1, k2, k3, k4, k5⟩ := al_sound (P := P) (w := w) I.tr hc (id := (Hs i).next) (x := x) (v := vs i) (by rw [hsame]; exact hev)
        have hnx : (Hs (i + 1)).next.num = (Hs i).next.num + 1 := by rw [← hx2, Hp.next_new, Pos.num_nxt]
        have hfr : ι (Hs i).next = none := I.free i him hD _ (Nat.le_refl _) (by omega)
        have hget : (Hs (i + 1)).get (Hs i).next = some x := by rw [← hx2]; exact Hp.get_new_eq _ _
        have hmem : memAt Hs l.length c (Hs i).next = some x := by
          by_cases hci : i < c
          · have := next_le R.mono (i := i + 1) (j := c) (by omega) I.cm
            rw [memAt_here (by omega), I.pend i hci hD _ (Nat.le_refl _) (by omega), hget]
          · rw [memAt_far R.mono (i := i + 1) (by omega) (by omega) (fun j h1 h2 => next_le R.mono (by omega) (by omega)), memAt_here (by omega), hget]
        obtain ⟨k6, k7⟩ := k5 (ι.upd (Hs i).next L) (Emb.le_upd L hfr) (Emb.upd_eq _ _ _)
        have hlast := next_le R.mono (i := i + 1) (j := l.length) (by omega) (Nat.le_refl _)
        unfold Oper.wp
        rw [k1]
        refine hK c _ _ w' (I.step R hl hD hbits (.inr (by rw [hop]; rfl)) (I.put R hl hD g2 g3 hb (Emb.le_upd L hfr) k6) (fun b h1 h2 => ?_) (FinG.alloc I.mem hfr hmem (next_le R.mono (by omega) (by omega)) (by omega) k2 k4 k7 k3))
        by_cases e : b = (Hs i).next
        · subst e; exact ⟨Nat.le_refl _, by omega⟩
        · rw [Emb.upd_ne _ _ e] at h2; exact absurd h1 h2
      · cases hx
    | ef ef xs => exact effect (by rw [hop]; rfl)
    | call f xs => exact effect (by rw [hop]; rfl)
end
end Go.Fg
/- The ideal machine: regions whose order is open, whole; and the machine's soundness. -/
namespace Go.Fg
variable {z : Oper → Bool} {Z : Nat → Oper → Bool}

def cnt (D : Nat → Bool) : Nat → Nat
  | 0 => 0
  | n + 1 => cnt D n + if D n = true then 0 else 1
theorem cnt_same {D D' : Nat → Bool} : ∀ {n : Nat}, (∀ j, j < n → D' j = D j) → cnt D' n = cnt D n
  | 0, _ => rfl
  | n + 1, h => by unfold cnt; rw [cnt_same fun j hj => h j (by omega), h n (by omega)]
theorem cnt_add {D : Nat → Bool} {i : Nat} (hD : D i = false) : ∀ {n : Nat}, i < n → cnt (add D i) n + 1 = cnt D n
  | n + 1, h => by
    unfold cnt
    by_cases e : i = n
    · subst e
      rw [add_eq, hD, cnt_same (D := D) fun j hj => add_ne D (by omega)]
      simp
    · rw [add_ne D (Ne.symm e)]
      have := cnt_add hD (n := n) (by omega)
      omega
theorem cnt_zero {D : Nat → Bool} : ∀ {n : Nat}, cnt D n = 0 → ∀ i, i < n → D i = true
  | n + 1, h, i, hi => by
    unfold cnt at h
    by_cases e : i = n
    · subst e
      cases q : D i with
      | true => rfl
      | false => rw [q] at h; simp at h
    · exact cnt_zero (D := D) (n := n) (by omega) i (by omega)

section
variable {P : Program} {cf : CallF} {nt : Nat} {ops : Array Oper} {l : List IOper} {τs : Nat → Fm} {Hs : Nat → Hp} {vs : Nat → IV} {on : Nat → Bool}
variable {ι₀ : Emb} {w₀ : World}

theorem foldD_none : ∀ n, foldD l (τs 0) vs (fun _ => false) n = τs 0
  | 0 => rfl
  | n + 1 => by unfold foldD; simp [foldD_none n]

theorem ready_mem {listed : Array Bool} {i : Nat} : i ∈ Region.ready .any ops listed ↔ i < ops.size ∧ listed.getD i true = false ∧ ∃ o, ops[i]? = some o ∧ ∀ e ∈ o.after.toList, Region.binds .any e = true → listed.getD e.on false = true := by
  unfold Region.ready
  rw [List.mem_filter, List.mem_range, Bool.and_eq_true, Bool.not_eq_true']
  refine and_congr_right fun hi => and_congr_right fun hl => ?_
  rw [Array.getElem?_eq_getElem hi]
  simp only [Option.map_some, Option.getD_some]
  constructor
  · intro h
    refine ⟨_, rfl, fun e he hb => ?_⟩
    rw [Array.all_eq_true_iff_forall_mem] at h
    have := h e (by simpa using he)
    rw [hb] at this
    simpa using this
  · rintro ⟨o, h1, h2⟩
    cases h1
    rw [Array.all_eq_true_iff_forall_mem]
    intro e he
    cases hb : Region.binds .any e with
    | false => rfl
    | true => simpa using h2 e (by simpa using he) hb

theorem all_listed (R : Reg P cf nt ops l τs Hs vs on) {listed : Array Bool} {D : Nat → Bool} (hs : listed.size = ops.size) (hD : ∀ i, listed.getD i false = D i) (hr : Region.ready .any ops listed = []) : ∀ n i, i < n → i < ops.size → D i = true
  | n + 1, i, hi, hm => by
    by_cases e : i < n
    · exact all_listed R hs hD hr n i e hm
    · cases q : D i with
      | true => rfl
      | false =>
        exfalso
        have : i ∈ Region.ready .any ops listed := ready_mem.2 ⟨hm, by
          rw [← hD] at q
          simpa [Array.getD, hs, hm] using q, ops[i], Array.getElem?_eq_getElem hm, fun e he hb => by
          have h1 := R.aft i _ (Array.getElem?_eq_getElem hm)
          unfold afterOk at h1
          rw [List.all_eq_true] at h1
          have h2 := h1 e he
          rw [hb] at h2
          have h3 : e.on < i := by
            have : Nat.blt e.on i = true := by simpa using h2
            exact Nat.le_of_ble_eq_true this
          rw [hD]
          exact all_listed R hs hD hr n e.on (by omega) (by omega)⟩
        rw [hr] at this
        cases this

theorem wpAny_inv (R : Reg P cf nt ops l τs Hs vs on) : ∀ (fuel : Nat) {listed : Array Bool} {D : Nat → Bool} {c : Nat} {ι : Emb} {a : Act} {w : World}, listed.size = ops.size → (∀ i, listed.getD i false = D i) → cnt D ops.size ≤ fuel →
    Inv nt ops l τs Hs vs on ι₀ w₀ D c ι a w → wpAny P .any ops (Lands nt ι₀ (Hs 0) w₀ (.nrm (τs l.length) (Hs l.length))) fuel listed a w := by
  have done : ∀ {listed : Array Bool} {D : Nat → Bool} {c : Nat} {ι : Emb} {a : Act} {w : World}, listed.size = ops.size → (∀ i, listed.getD i false = D i) → (∀ i, i < ops.size → D i = true) →
      Inv nt ops l τs Hs vs on ι₀ w₀ D c ι a w → Lands nt ι₀ (Hs 0) w₀ (.nrm (τs l.length) (Hs l.length)) .normal a w := by
    intro listed D c ι a w hs hD hall I
    have hfr : ∀ i, i < l.length → τs (i + 1) = putd (τs i) (dstAt l i) (vs i) := fun k hk => by
      have hlk : l[k]? = some l[k] := List.getElem?_eq_getElem hk
      rw [R.T.frame k _ hlk]; unfold dstAt; rw [hlk]; rfl
    obtain ⟨k1, k2, k3, k4⟩ := I.window R I.cm (Nat.le_refl _) (fun i o h1 h2 h3 h4 h5 => by
      have := I.c2 i o h1 h3 h4 h5
      rw [hall i (by rw [← R.len]; exact h2)] at this
      cases this)
    refine ⟨rfl, ι, ⟨fun t ht => ?_, k4, I.asz, I.adef⟩, I.mem.fin k1 (next_le R.mono (Nat.zero_le _) (Nat.le_refl _)) rfl k3⟩
    have := I.tr t ht
    rwa [foldD_text hfr (Nat.le_refl _) (fun j hj _ => hall j (by rw [← R.len]; exact hj))] at this
  intro fuel
  induction fuel with
  | zero =>
    intro listed D c ι a w hs hD hc I
    have hall := cnt_zero (D := D) (n := ops.size) (by omega)
    refine ⟨?_, done hs hD hall I⟩
    cases hr : Region.ready .any ops listed with
    | nil => rfl
    | cons i r =>
      exfalso
      have : i ∈ Region.ready .any ops listed := by rw [hr]; exact List.mem_cons_self ..
      obtain ⟨h1, h2, _⟩ := ready_mem.1 this
      have h3 := hall i h1
      rw [← hD] at h3
      have : listed.getD i true = listed.getD i false := by simp [Array.getD, hs, h1]
      rw [this, h3] at h2
      cases h2
  | succ fuel ih =>
    intro listed D c ι a w hs hD hc I
    refine ⟨fun hr => done hs hD (fun i hi => all_listed R hs hD hr (i + 1) i (Nat.lt_succ_self _) hi) I, fun i hi => ?_⟩
    obtain ⟨h1, h2, o, h3, h4⟩ := ready_mem.1 hi
    have hDi : D i = false := by
      have : listed.getD i true = listed.getD i false := by simp [Array.getD, hs, h1]
      rw [← hD, ← this, h2]
    refine I.run R h3 hDi (fun e he hb => by rw [← hD]; exact h4 e he hb) fun c' ι' a' w' I' => ?_
    refine ih (D := add D i) (by simpa using hs) (fun j => ?_) (by have := cnt_add hDi h1; omega) I'
    by_cases e : j = i
    · subst e
      rw [add_eq]
      simp [Array.getD, hs, h1]
    · rw [add_ne D e, ← hD j]
      simp only [Array.getD_eq_getD_getElem?]
      rw [Array.getElem?_setIfInBounds_ne (Ne.symm e)]
end

theorem compOps_length {P : Program} {nt : Nat} {ops : Array Oper} : ∀ (l : List Oper) (bs : List Nat), (compOps P z nt ops l bs).length = l.length
  | [], bs => rfl
  | o :: r, bs => by
    obtain ⟨io, e, _⟩ := compOps_cons (P := P) (nt := nt) (ops := ops) (o := o) (r := r) (bs := bs)
    rw [e]; simp [compOps_length r]
theorem compOps_get {P : Program} {nt : Nat} {ops : Array Oper} : ∀ (l : List Oper) (bs : List Nat) (i : Nat) (o : Oper), l[i]? = some o → ∃ io, (compOps P z nt ops l bs)[i]? = some io ∧
    ((io.guard = none ∧ io.op = .bad) ∨ (guardOf ops o.guard = some io.guard ∧ io.dst = o.dst.map pos ∧ (∀ d, o.dst = some d → d < nt) ∧ io.op = (compOp P o).getD .bad ∧ io.bits = (bs[i]?).getD 0))
  | [], bs, i, o, h => by simp at h
  | o0 :: r, bs, 0, o, h => by
    simp at h; subst h
    have hb : bs.headD 0 = (bs[0]?).getD 0 := by cases bs <;> rfl
    refine ⟨_, rfl, ?_⟩
    split
    · rename_i g hg
      split
      · rename_i d hd
        split
        · rename_i hlt
          exact .inr ⟨hg, by rw [hd]; rfl, fun d' h' => by rw [hd] at h'; cases h'; exact Nat.le_of_ble_eq_true hlt, rfl, hb⟩
        · exact .inl ⟨rfl, rfl⟩
      · rename_i hd
        exact .inr ⟨hg, by rw [hd]; rfl, (fun d' h' => by rw [hd] at h'; cases h'), rfl, hb⟩
    · exact .inl ⟨rfl, rfl⟩
  | o0 :: r, bs, i + 1, o, h => by
    obtain ⟨io, e, _⟩ := compOps_cons (P := P) (nt := nt) (ops := ops) (o := o0) (r := r) (bs := bs)
    rw [e]
    simp only [List.getElem?_cons_succ] at h ⊢
    obtain ⟨io2, h1, h2⟩ := compOps_get (P := P) (nt := nt) (ops := ops) r bs.tail i o h
    refine ⟨io2, h1, h2.imp id fun ⟨a1, a2, a3, a4, a5⟩ => ⟨a1, a2, a3, a4, ?_⟩⟩
    rw [a5]
    cases bs <;> simp

/-- EVERY REGION WHOSE ORDER IS OPEN. -/
theorem draw_sound {P : Program} (hm : P.follows .mixedOrders = true) (cf : CallF) (hcf : CSim P cf) (hup : CUp cf) : DrawSound P cf := by
  intro nt id ops ι τ H a w out hnt hdr hs ho hf hfr
  obtain ⟨τs, Hs, vs, on, e1, e2, e3, T⟩ := table_of _ _ _ _ _ (by rw [ho]; exact hf)
  rw [ho] at e3
  subst e3
  generalize hl : compOps P (fun _ => false) nt ops ops.toList (Region.before ops).toList = l at *
  have hlen : l.length = ops.size := by rw [← hl, compOps_length]; simp
  obtain ⟨p1, p2⟩ := drawOk_spec hdr (by rw [hlen]; simp)
  have R : Reg P cf nt ops l τs Hs vs on := {
    hcf := hcf
    hup := hup
    hnt := hnt
    len := hlen
    T := T
    pair := p1
    aft := fun i o hi => p2 i o (by simpa using hi)
    comp := fun i o hi => by
      obtain ⟨io, h1, h2⟩ := compOps_get (P := P) (nt := nt) (ops := ops) ops.toList (Region.before ops).toList i o (by simpa using hi)
      rw [hl] at h1
      refine ⟨io, h1, ?_⟩
      rcases h2 with ⟨g1, g2⟩ | ⟨g1, g2, g3, g4, g5⟩
      · exfalso
        have hon := T.wanted i io h1
        rw [g1] at hon
        have := T.does i io h1 hon
        rw [g2] at this
        cases this
      · refine ⟨g1, g2, g3, g4, ?_⟩
        rw [g5, Array.getD_eq_getD_getElem?, Array.getElem?_toList] }
  subst e1 e2
  have hfree : Free ι (Hs 0) (Hs l.length) := hfr
  refine wp_region_any hm (wpAny_inv R ops.size (D := fun _ => false) (c := 0) (ι := ι) (by simp) (fun i => ?_) ?_ {
    closed := fun i j h _ => by cases h
    tr := by rw [foldD_none]; exact hs.tr
    asz := hs.size
    adef := hs.def_
    cm := Nat.zero_le _
    c1 := fun i o h => absurd h (Nat.not_lt_zero _)
    c2 := fun _ _ _ _ _ _ => rfl
    c3 := .inl rfl
    low := hs.hr.low
    free := fun i hi _ b h1 h2 => hfree b (Nat.le_trans (next_le R.mono (Nat.zero_le _) (by omega)) h1) (Nat.lt_of_lt_of_le h2 (next_le R.mono (by omega) (Nat.le_refl _)))
    pend := fun j h => absurd h (Nat.not_lt_zero _)
    mem := FinG.start hs.hr (fun b hb => memAt_here hb) (fun b h1 h2 => hfree b h1 h2) (fun b hb => by
      rw [memAt_far R.mono (i := l.length) (Nat.zero_le _) (Nat.le_refl _) (fun j h1 _ => Nat.le_trans (next_le R.mono (by omega) (Nat.le_refl _)) hb), memAt_end hb]) rfl ⟨rfl, rfl, rfl, fun _ => rfl⟩ })
  · simp [Array.getD]
  · have : ∀ n, cnt (fun _ => false) n ≤ n := fun n => by
      induction n with
      | zero => exact Nat.le_refl _
      | succ n ih => unfold cnt; simp; exact ih
    exact this _

/-- THE IDEAL MACHINE IS SOUND. -/
theorem sound {P : Program} (hm : P.follows .mixedOrders = true) {T : Pos → Option IFn} (hT : ∀ n f, n < 1000000 → T (pos n) = some f → compFn P Z n = some f) (N n : Nat) : CSim P (callN T N n) := callN_sound (draw_sound hm) hT n
end Go.Fg
/- The ideal machine: calls that see no memory but what no one writes any more. -/
namespace Go.Fg

def Hp.empty : Hp := ⟨.nil, .h⟩
theorem Hp.get_empty (b : Pos) : Hp.empty.get b = none := rfl

/-- A call that is told its arguments by their contents, and whose answer is told by its content: pl knows some answers. -/
noncomputable def pureC (pl : Pos → List IV → Option IV) (cf : CallF) : CallF := fun k args h => match frzs h args with
  | some (args', h1) => match pl k args' with
    | some r => some (r, h1)
    | none => match cf k args' Hp.empty with
      | some (r, h2) => match frz h2 r with
        | some (r', _) => some (r', h1)
        | none => none
      | none => none
  | none => none

/-- One answer is right, whatever memory holds. -/
def Tells (P : Program) (n : Nat) (args : List IV) (r : IV) : Prop :=
  (∃ fn, P.funcs[n]? = some fn ∧ fn.body.isNone = false ∧ (fn.name == "runtime.NumGoroutine") = false) ∧
  ∀ (ι : Emb) (w : World) (args' : Array Value), VRs ι.bare args args'.toList → HR ι.bare Hp.empty w →
    Calls P n args' w fun e w' => ∃ v' ι' h', e = .returned v' ∧ VR ι'.bare r v' ∧ Fin ι.bare Hp.empty w ι' h' w'
/-- What is asked of known answers. -/
def PSim (P : Program) (pl : Pos → List IV → Option IV) : Prop := ∀ n args r, n < 1000000 → pl (pos n) args = some r → Tells P n args r
theorem psim_none (P : Program) : PSim P (fun _ _ => none) := fun _ _ _ _ e => by cases e

section
variable {P : Program}

theorem HR.bare {ι : Emb} {H : Hp} {w : World} (h : HR ι H w) : HR ι.bare Hp.empty w where
  pro := h.pro
  apart b x L y r sh hb := by rw [Hp.get_empty] at hb; cases hb
  blk b x L hb := by rw [Hp.get_empty] at hb; cases hb
  inj b₁ b₂ L₁ L₂ h1 := absurd (Hp.get_empty b₁) h1
  lt b L hL := by cases hL
  low b hb := absurd (Hp.get_empty b) hb

/-- From a run that sees no memory of the caller's. -/
theorem Fin.inner {ι₁ ι₃ : Emb} {h1 h3 : Hp} {w w' : World} (hH : HR ι₁ h1 w) (F : Fin ι₁.bare Hp.empty w ι₃ h3 w') : Fin ι₁ h1 w ⟨ι₁.m, ι₃.im⟩ h1 w' := by
  have hw : ∀ r, r < w.heap.size → w'.heap[r]? = w.heap[r]? := fun r hr => F.frame r hr fun b L hb => by cases hb
  have ext : ι₁.le ⟨ι₁.m, ι₃.im⟩ := ⟨fun _ _ h => h, F.ext.2⟩
  have im : ∀ y r sh, ι₃.im y r sh → r < w.heap.size → ∃ x₀ sh₀, ι₁.im x₀ r sh₀ := fun y r sh hy hr => by
    rcases F.icov y r sh hy hr with h | ⟨b₀, L₀, e, _⟩
    · exact h
    · cases e
  exact {
    ext := ext
    fresh := fun b e1 e2 => absurd e1 e2
    hr := {
      pro := fun x r sh hx => F.hr.pro x r sh hx
      apart := fun b x L y r sh hb hl hL hy er => by
        obtain ⟨x₀, sh₀, h0⟩ := im y r sh hy (by rw [er]; exact hH.lt b L hL)
        exact hH.apart b x L x₀ r sh₀ hb hl hL h0 er
      blk := fun b x L hb hL => (hH.blk b x L hb hL).mono ext (hw _ (hH.lt b L hL))
      inj := hH.inj
      lt := fun b L hL => Nat.lt_of_lt_of_le (hH.lt b L hL) F.size
      low := hH.low }
    up := Nat.le_refl _
    size := F.size
    frame := fun r hr _ => hw r hr
    cover := fun b L hL hb _ => ⟨b, L, hL, hb, rfl⟩
    icov := fun x r sh hx hr => .inl (im x r sh hx hr)
    still := fun _ _ _ => rfl
    out := F.out }

theorem Emb.bare_le_mk (m : Pos → Option Loc) (ι : Emb) : ι.bare.le ⟨m, ι.im⟩ := ⟨fun _ _ h => (by cases h), fun _ _ _ h => h⟩

theorem tells_of {cf : CallF} (hcf : CSim P cf) {n : Nat} {args : List IV} {r u : IV} {h2 h3 : Hp} (hn : n < 1000000) (e : cf (pos n) args Hp.empty = some (r, h2)) (e3 : frz h2 r = some (u, h3)) : Tells P n args u := by
  obtain ⟨k1, k2⟩ := hcf n args _ _ _ hn e
  refine ⟨k1, fun ι w args'' hv hH => (k2 ι.bare w args'' hv hH (fun _ _ _ => rfl)).mono ?_⟩
  rintro e w' ⟨v', ι', rfl, m1, m2⟩
  obtain ⟨ι2, f1, f2, f3⟩ := frz_sound (P := P) m2.hr m1 e3
  exact ⟨v', ι2, h3, rfl, f3, m2.trans f1⟩

theorem pureC_tells {pl : Pos → List IV → Option IV} {cf : CallF} (hpl : PSim P pl) (hcf : CSim P cf) {n : Nat} {args args' : List IV} {h h1 h' : Hp} {v : IV} (hn : n < 1000000) (e1 : frzs h args = some (args', h1)) (e : pureC pl cf (pos n) args h = some (v, h')) : Tells P n args' v ∧ h' = h1 := by
  unfold pureC at e
  rw [e1] at e
  simp only [] at e
  split at e
  · rename_i r hr
    cases e
    exact ⟨hpl n args' _ hn hr, rfl⟩
  · split at e
    case h_2 => cases e
    rename_i r h2 e2
    split at e
    case h_2 => cases e
    rename_i r' h3 e3
    cases e
    exact ⟨tells_of hcf hn e2 e3, rfl⟩

theorem pureC_sound {pl : Pos → List IV → Option IV} {cf : CallF} (hpl : PSim P pl) (hcf : CSim P cf) : CSim P (pureC pl cf) := by
  intro n args h v h' hn e
  obtain ⟨args', h1, e1⟩ : ∃ args' h1, frzs h args = some (args', h1) := by
    unfold pureC at e
    split at e
    · exact ⟨_, _, ‹_›⟩
    · cases e
  obtain ⟨key, rfl⟩ := pureC_tells hpl hcf hn e1 e
  refine ⟨key.1, fun ι w args'' hv hH hfree => ?_⟩
  obtain ⟨ι1, f1, f2, f3⟩ := frzs_sound (P := P) hH hv e1
  refine (key.2 ι1 w args'' f3 f1.hr.bare).mono ?_
  rintro e w' ⟨v', ι', h'', rfl, m1, m2⟩
  exact ⟨v', ⟨ι1.m, ι'.im⟩, rfl, m1.mono (Emb.bare_le_mk ι1.m ι'), f1.trans (Fin.inner f1.hr m2)⟩

theorem pureC_up {pl : Pos → List IV → Option IV} {cf : CallF} : CUp (pureC pl cf) := by
  intro g args h v h' e
  unfold pureC at e
  split at e
  case h_2 => cases e
  rename_i args' h1 e1
  have := (frzs_same e1).1.next
  split at e
  · cases e; rw [this]; exact Nat.le_refl _
  · split at e
    · split at e
      · cases e; rw [this]; exact Nat.le_refl _
      · cases e
    · cases e

/-! The machine whose calls are such, but for the functions that imp names. -/
noncomputable def callT (T : Pos → Option IFn) (N : Nat) (cf : CallF) : CallF := fun f args h => match T f with
  | none => none
  | some fn => callFn N cf fn args h
noncomputable def stepP (pl : Pos → List IV → Option IV) (imp : Pos → Bool) (T : Pos → Option IFn) (N : Nat) (cf : CallF) : CallF := fun f args h =>
  cond (imp f) (callT T N cf f args h) (pureC pl (callT T N cf) f args h)
noncomputable def callP (pl : Pos → List IV → Option IV) (imp : Pos → Bool) (T : Pos → Option IFn) (N : Nat) : Nat → CallF
  | 0 => fun _ _ _ => none
  | n + 1 => stepP pl imp T N (callP pl imp T N n)

variable {pl : Pos → List IV → Option IV} {imp : Pos → Bool} {T : Pos → Option IFn} {Z : Nat → Oper → Bool}
theorem callT_up {N : Nat} {cf : CallF} (h : CUp cf) : CUp (callT T N cf) := by
  intro g args h v h' e
  unfold callT at e
  split at e
  · cases e
  · exact callFn_up ‹_› e
theorem stepP_up {N : Nat} {cf : CallF} (h : CUp cf) : CUp (stepP pl imp T N cf) := by
  intro g args h v h' e
  unfold stepP at e
  cases c : imp g with
  | true => rw [c] at e; exact callT_up ‹_› _ _ _ _ _ e
  | false => rw [c] at e; exact pureC_up _ _ _ _ _ e
theorem callP_up {N : Nat} : ∀ n, CUp (callP pl imp T N n)
  | 0 => fun _ _ _ _ _ e => by cases e
  | n + 1 => stepP_up (callP_up n)
theorem callT_sound (hm : P.follows .mixedOrders = true) (hT : ∀ n f, n < 1000000 → T (pos n) = some f → compFn P Z n = some f) {N : Nat} {cf : CallF} (h : CSim P cf) (hu : CUp cf) : CSim P (callT T N cf) := by
  intro n args h v h' hn e
  unfold callT at e
  split at e
  · cases e
  · rename_i fn hf
    exact callFn_sound ‹_› hu (draw_sound hm _ ‹_› hu) (hT n fn hn hf) e
theorem callP_sound (hm : P.follows .mixedOrders = true) (hT : ∀ n f, n < 1000000 → T (pos n) = some f → compFn P Z n = some f) (hpl : PSim P pl) {N : Nat} : ∀ n, CSim P (callP pl imp T N n)
  | 0 => fun _ _ _ _ _ _ e => by cases e
  | n + 1 => by
    have ht := callT_sound (N := N) hm hT (callP_sound (N := N) hm hT hpl n) (callP_up (pl := pl) (imp := imp) (T := T) (N := N) n)
    intro k args h v h' hk e
    have e : stepP pl imp T N (callP pl imp T N n) (pos k) args h = some (v, h') := e
    unfold stepP at e
    cases c : imp (pos k) with
    | true => rw [c] at e; exact ht k args h v h' hk e
    | false => rw [c] at e; exact pureC_sound hpl ht k args h v h' hk e
end
end Go.Fg
/- The ideal machine without bounds: what is answered with some bound. -/
namespace Go.Fg

def CLe (cf cf' : CallF) : Prop := ∀ k a h r, cf k a h = some r → cf' k a h = some r
theorem CLe.refl (cf : CallF) : CLe cf cf := fun _ _ _ _ h => h
theorem CLe.trans {a b c : CallF} (h : CLe a b) (k : CLe b c) : CLe a c := fun _ _ _ _ e => k _ _ _ _ (h _ _ _ _ e)

section
variable {cf cf' : CallF} (hc : CLe cf cf')

theorem exOp_mono (hc : CLe cf cf') {o : Io} {τ : Fm} {h : Hp} {r : IV × Hp} (e : exOp cf o τ h = some r) : exOp cf' o τ h = some r := by
  cases o with
  | call f xs =>
    have e : exCall cf (f.ev τ) (evs τ xs) h = some r := e
    show exCall cf' (f.ev τ) (evs τ xs) h = some r
    unfold exCall at e ⊢
    split at e
    · exact hc _ _ _ _ e
    · cases e
  | rd => exact e
  | al => exact e
  | ef => exact e
  | bad => exact e
theorem exOpz_mono (hc : CLe cf cf') {o : IOper} {τ : Fm} {h : Hp} {r : IV × Hp} (e : exOpz cf o τ h = some r) : exOpz cf' o τ h = some r := by
  unfold exOpz at e ⊢
  cases c : o.fz with
  | false => rw [c] at e; exact exOp_mono hc e
  | true =>
    rw [c] at e
    have e : exFz cf o.op τ h = some r := e
    show exFz cf' o.op τ h = some r
    unfold exFz at e ⊢
    split at e
    · rename_i τ' h' e1; exact exOp_mono hc e
    · cases e
theorem exOps_mono (hc : CLe cf cf') : ∀ {l : List IOper} {τ : Fm} {h : Hp} {out : Out}, exOps cf l τ h = out → out ≠ .fail → exOps cf' l τ h = out
  | [], τ, h, out, e, hf => e
  | o :: r, τ, h, out, e, hf => by
    unfold exOps at e ⊢
    cases c : wantedI o.guard τ with
    | false => rw [c] at e; exact exOps_mono hc e hf
    | true =>
      rw [c] at e
      have e : opThen (exOps cf r) τ o.dst (exOpz cf o τ h) = out := e
      show opThen (exOps cf' r) τ o.dst (exOpz cf' o τ h) = out
      cases q : exOpz cf o τ h with
      | none => rw [q] at e; exact absurd e.symm hf
      | some x =>
        rw [q] at e
        rw [exOpz_mono hc q]
        obtain ⟨v, h'⟩ := x
        exact exOps_mono hc (l := r) e hf
theorem exDraw_mono (hc : CLe cf cf') : ∀ {l : List IOper} {n : Nat} {d : DSt} {τ : Fm} {h : Hp} {out : Out}, exDraw cf l n d τ h = out → out ≠ .fail → exDraw cf' l n d τ h = out
  | [], n, d, τ, h, out, e, hf => e
  | o :: r, n, d, τ, h, out, e, hf => by
    rw [exDraw_cons] at e ⊢
    cases c : wantedI o.guard τ with
    | false => rw [c] at e; exact exDraw_mono hc (l := r) e hf
    | true =>
      rw [c] at e
      have e : drawThen (exDraw cf r (n + 1)) n o d τ h (exOp cf o.op τ h) = out := e
      show drawThen (exDraw cf' r (n + 1)) n o d τ h (exOp cf' o.op τ h) = out
      cases q : exOp cf o.op τ h with
      | none => rw [q] at e; exact absurd e.symm hf
      | some x =>
        rw [q] at e
        rw [exOp_mono hc q]
        obtain ⟨v, h'⟩ := x
        unfold drawThen at e ⊢
        simp only [] at e ⊢
        split at e
        · exact exDraw_mono hc (l := r) e hf
        · exact absurd e.symm hf
end

theorem thenI_ne {k : Fm → Hp → Out} {o out : Out} (e : thenI k o = out) (hf : out ≠ .fail) : o ≠ .fail := by
  intro h; subst h; exact hf e.symm
theorem loopN_mono {b b' : Fm → Hp → Out} (hb : ∀ τ h out, b τ h = out → out ≠ .fail → b' τ h = out) : ∀ {n n' : Nat} {τ : Fm} {h : Hp} {out : Out}, n ≤ n' → loopN b n τ h = out → out ≠ .fail → loopN b' n' τ h = out
  | 0, n', τ, h, out, _, e, hf => absurd e.symm hf
  | n + 1, 0, τ, h, out, hn, _, _ => by omega
  | n + 1, n' + 1, τ, h, out, hn, e, hf => by
    have e : thenI (loopN b n) (b τ h) = out := e
    show thenI (loopN b' n') (b' τ h) = out
    have h1 := thenI_ne e hf
    rw [hb _ _ _ rfl h1]
    cases q : b τ h with
    | nrm τ1 h1 => rw [q] at e; exact loopN_mono hb (by omega) e hf
    | ret _ _ => rw [q] at e; exact e
    | exit _ _ _ => rw [q] at e; exact e
    | fail => exact absurd q h1
theorem sem_mono {cf cf' : CallF} (hc : CLe cf cf') {N N' : Nat} (hN : N ≤ N') : ∀ (c : ICode) {τ : Fm} {h : Hp} {out : Out}, sem N cf c τ h = out → out ≠ .fail → sem N' cf' c τ h = out
  | .skip, _, _, _, e, _ => e
  | .ops l, _, _, _, e, hf => exOps_mono hc e hf
  | .draw l, _, _, _, e, hf => exDraw_mono hc e hf
  | .exit _, _, _, _, e, _ => e
  | .ret, _, _, _, e, _ => e
  | .bad, _, _, _, e, hf => absurd e.symm hf
  | .seq a b, τ, h, out, e, hf => by
    have e : thenI (sem N cf b) (sem N cf a τ h) = out := e
    show thenI (sem N' cf' b) (sem N' cf' a τ h) = out
    have h1 := thenI_ne e hf
    rw [sem_mono hc hN a rfl h1]
    cases q : sem N cf a τ h with
    | nrm τ1 h1 => rw [q] at e; exact sem_mono hc hN b e hf
    | ret _ _ => rw [q] at e; exact e
    | exit _ _ _ => rw [q] at e; exact e
    | fail => exact absurd q h1
  | .cond o a b, τ, h, out, e, hf => by
    have e : condI (sem N cf a τ h) (sem N cf b τ h) (o.ev τ) = out := e
    show condI (sem N' cf' a τ h) (sem N' cf' b τ h) (o.ev τ) = out
    generalize o.ev τ = v at e ⊢
    unfold condI at e ⊢
    split at e
    · exact sem_mono hc hN a e hf
    · exact sem_mono hc hN b e hf
    · exact absurd e.symm hf
  | .block id b, τ, h, out, e, hf => by
    have e : blockI id (sem N cf b τ h) = out := e
    show blockI id (sem N' cf' b τ h) = out
    have h1 : sem N cf b τ h ≠ .fail := by intro q; rw [q] at e; exact hf e.symm
    rw [sem_mono hc hN b rfl h1]
    exact e
  | .loop b, τ, h, out, e, hf => loopN_mono (fun τ h out e hf => sem_mono hc hN b e hf) hN (show loopN (sem N cf b) N τ h = out from e) hf

theorem callFn_mono {cf cf' : CallF} (hc : CLe cf cf') {N N' : Nat} (hN : N ≤ N') {fn : IFn} {args : List IV} {h : Hp} {r : IV × Hp} (e : callFn N cf fn args h = some r) : callFn N' cf' fn args h = some r := by
  unfold callFn at e ⊢
  have h1 : sem N cf fn.body (frameOf args .h .nil) h ≠ .fail := by intro q; rw [q] at e; cases e
  rw [sem_mono hc hN fn.body rfl h1]
  exact e

variable {pl : Pos → List IV → Option IV} {imp : Pos → Bool} {T : Pos → Option IFn}
theorem callT_mono {cf cf' : CallF} (hc : CLe cf cf') {N N' : Nat} (hN : N ≤ N') : CLe (callT T N cf) (callT T N' cf') := by
  intro k a h r e
  unfold callT at e ⊢
  split at e
  · cases e
  · exact callFn_mono hc hN e
theorem pureC_mono {cf cf' : CallF} (hc : CLe cf cf') : CLe (pureC pl cf) (pureC pl cf') := by
  intro k a h r e
  unfold pureC at e ⊢
  split at e
  case h_2 => cases e
  rename_i args' h1 e1
  split at e
  · exact e
  · split at e
    case h_2 => cases e
    rename_i r0 h2 e2
    rw [hc _ _ _ _ e2]
    exact e
theorem stepP_mono {cf cf' : CallF} (hc : CLe cf cf') {N N' : Nat} (hN : N ≤ N') : CLe (stepP pl imp T N cf) (stepP pl imp T N' cf') := by
  intro k a h r e
  unfold stepP at e ⊢
  cases c : imp k with
  | true => rw [c] at e; exact callT_mono hc hN _ _ _ _ e
  | false => rw [c] at e; exact pureC_mono (callT_mono hc hN) _ _ _ _ e
theorem callP_mono {N N' : Nat} (hN : N ≤ N') : ∀ {n n' : Nat}, n ≤ n' → CLe (callP pl imp T N n) (callP pl imp T N' n')
  | 0, _, _ => fun _ _ _ _ e => by cases e
  | n + 1, 0, h => by omega
  | n + 1, n' + 1, h => stepP_mono (callP_mono hN (by omega)) hN

/-! ### Without bounds -/
variable (pl : Pos → List IV → Option IV) (imp : Pos → Bool) (T : Pos → Option IFn)
noncomputable def U (n : Nat) : CallF := callP pl imp T n n
open Classical in
noncomputable def W : CallF := fun k a h => if e : ∃ n r, U pl imp T n k a h = some r then some (Classical.choose (Classical.choose_spec e)) else none
variable {pl imp T}
theorem U_mono {n m : Nat} (h : n ≤ m) : CLe (U pl imp T n) (U pl imp T m) := callP_mono h h
theorem W_some {k : Pos} {a : List IV} {h : Hp} {r : IV × Hp} : W pl imp T k a h = some r ↔ ∃ n, U pl imp T n k a h = some r := by
  unfold W
  split
  · rename_i e
    have h1 := Classical.choose_spec (Classical.choose_spec e)
    constructor
    · intro q; cases q; exact ⟨_, h1⟩
    · rintro ⟨n, hn⟩
      have a1 := U_mono (Nat.le_max_left (Classical.choose e) n) _ _ _ _ h1
      have a2 := U_mono (Nat.le_max_right (Classical.choose e) n) _ _ _ _ hn
      rw [a1] at a2
      exact a2
  · rename_i e
    constructor
    · intro q; cases q
    · rintro ⟨n, hn⟩; exact absurd ⟨n, r, hn⟩ e
theorem U_le (n : Nat) : CLe (U pl imp T n) (W pl imp T) := fun _ _ _ _ e => W_some.2 ⟨n, e⟩

/-- Whatever comes out with W comes out with some bound. -/
theorem exOp_cont {o : Io} {τ : Fm} {h : Hp} {r : IV × Hp} (e : exOp (W pl imp T) o τ h = some r) : ∃ n, exOp (U pl imp T n) o τ h = some r := by
  cases o with
  | call f xs =>
    have e : exCall (W pl imp T) (f.ev τ) (evs τ xs) h = some r := e
    unfold exCall at e
    split at e
    · rename_i g caps hg
      obtain ⟨n, hn⟩ := W_some.1 e
      exact ⟨n, by show exCall _ _ _ _ = _; unfold exCall; rw [hg]; exact hn⟩
    · cases e
  | rd => exact ⟨0, e⟩
  | al => exact ⟨0, e⟩
  | ef => exact ⟨0, e⟩
  | bad => exact ⟨0, e⟩
theorem exOpz_cont {o : IOper} {τ : Fm} {h : Hp} {r : IV × Hp} (e : exOpz (W pl imp T) o τ h = some r) : ∃ n, exOpz (U pl imp T n) o τ h = some r := by
  unfold exOpz at e ⊢
  cases c : o.fz with
  | false => rw [c] at e; exact exOp_cont e
  | true =>
    rw [c] at e
    have e : exFz (W pl imp T) o.op τ h = some r := e
    unfold exFz at e
    split at e
    · rename_i τ' h' e1
      obtain ⟨n, hn⟩ := exOp_cont e
      exact ⟨n, by show exFz _ _ _ _ = _; unfold exFz; rw [e1]; exact hn⟩
    · cases e
theorem exOps_cont : ∀ {l : List IOper} {τ : Fm} {h : Hp} {out : Out}, exOps (W pl imp T) l τ h = out → out ≠ .fail → ∃ n, exOps (U pl imp T n) l τ h = out
  | [], τ, h, out, e, hf => ⟨0, e⟩
  | o :: r, τ, h, out, e, hf => by
    unfold exOps at e ⊢
    cases c : wantedI o.guard τ with
    | false => rw [c] at e; exact exOps_cont (l := r) e hf
    | true =>
      rw [c] at e
      have e : opThen (exOps (W pl imp T) r) τ o.dst (exOpz (W pl imp T) o τ h) = out := e
      cases q : exOpz (W pl imp T) o τ h with
      | none => rw [q] at e; exact absurd e.symm hf
      | some x =>
        rw [q] at e
        obtain ⟨v, h'⟩ := x
        obtain ⟨n1, k1⟩ := exOpz_cont q
        obtain ⟨n2, k2⟩ := exOps_cont (l := r) e hf
        refine ⟨max n1 n2, ?_⟩
        show opThen (exOps (U pl imp T (max n1 n2)) r) τ o.dst (exOpz (U pl imp T (max n1 n2)) o τ h) = out
        rw [exOpz_mono (U_mono (Nat.le_max_left n1 n2)) k1]
        exact exOps_mono (U_mono (Nat.le_max_right n1 n2)) k2 hf
theorem exDraw_cont : ∀ {l : List IOper} {n : Nat} {d : DSt} {τ : Fm} {h : Hp} {out : Out}, exDraw (W pl imp T) l n d τ h = out → out ≠ .fail → ∃ m, exDraw (U pl imp T m) l n d τ h = out
  | [], n, d, τ, h, out, e, hf => ⟨0, e⟩
  | o :: r, n, d, τ, h, out, e, hf => by
    rw [exDraw_cons] at e
    cases c : wantedI o.guard τ with
    | false =>
      rw [c] at e
      obtain ⟨m, hm⟩ := exDraw_cont (l := r) e hf
      exact ⟨m, by rw [exDraw_cons, c]; exact hm⟩
    | true =>
      rw [c] at e
      have e : drawThen (exDraw (W pl imp T) r (n + 1)) n o d τ h (exOp (W pl imp T) o.op τ h) = out := e
      cases q : exOp (W pl imp T) o.op τ h with
      | none => rw [q] at e; exact absurd e.symm hf
      | some x =>
        rw [q] at e
        obtain ⟨v, h'⟩ := x
        obtain ⟨n1, k1⟩ := exOp_cont q
        unfold drawThen at e
        simp only [] at e
        split at e
        · rename_i d' hd
          obtain ⟨n2, k2⟩ := exDraw_cont (l := r) e hf
          refine ⟨max n1 n2, ?_⟩
          rw [exDraw_cons, c]
          show drawThen (exDraw (U pl imp T (max n1 n2)) r (n + 1)) n o d τ h (exOp (U pl imp T (max n1 n2)) o.op τ h) = out
          rw [exOp_mono (U_mono (Nat.le_max_left n1 n2)) k1]
          unfold drawThen
          simp only [hd]
          exact exDraw_mono (U_mono (Nat.le_max_right n1 n2)) k2 hf
        · exact absurd e.symm hf
theorem loopN_cont {b : CallF → Fm → Hp → Out} (hm : ∀ cf cf', CLe cf cf' → ∀ τ h out, b cf τ h = out → out ≠ .fail → b cf' τ h = out)
    (hb : ∀ τ h out, b (W pl imp T) τ h = out → out ≠ .fail → ∃ n, b (U pl imp T n) τ h = out) : ∀ {k : Nat} {τ : Fm} {h : Hp} {out : Out}, loopN (b (W pl imp T)) k τ h = out → out ≠ .fail → ∃ n, loopN (b (U pl imp T n)) k τ h = out
  | 0, τ, h, out, e, hf => absurd e.symm hf
  | k + 1, τ, h, out, e, hf => by
    have e : thenI (loopN (b (W pl imp T)) k) (b (W pl imp T) τ h) = out := e
    have h1 := thenI_ne e hf
    obtain ⟨n1, k1⟩ := hb _ _ _ rfl h1
    cases q : b (W pl imp T) τ h with
    | nrm τ1 h1 =>
      rw [q] at e k1
      obtain ⟨n2, k2⟩ := loopN_cont hm hb (k := k) e hf
      refine ⟨max n1 n2, ?_⟩
      show thenI (loopN _ k) (b (U pl imp T (max n1 n2)) τ h) = out
      rw [hm _ _ (U_mono (Nat.le_max_left n1 n2)) _ _ _ k1 (by intro h; cases h)]
      exact loopN_mono (hm _ _ (U_mono (Nat.le_max_right n1 n2))) (Nat.le_refl _) k2 hf
    | ret _ _ => rw [q] at e k1; exact ⟨n1, by show thenI (loopN _ k) (b (U pl imp T n1) τ h) = out; rw [k1]; exact e⟩
    | exit _ _ _ => rw [q] at e k1; exact ⟨n1, by show thenI (loopN _ k) (b (U pl imp T n1) τ h) = out; rw [k1]; exact e⟩
    | fail => exact absurd q h1
theorem sem_cont {N : Nat} : ∀ (c : ICode) {τ : Fm} {h : Hp} {out : Out}, sem N (W pl imp T) c τ h = out → out ≠ .fail → ∃ n, sem N (U pl imp T n) c τ h = out
  | .skip, _, _, _, e, _ => ⟨0, e⟩
  | .ops l, _, _, _, e, hf => exOps_cont e hf
  | .draw l, _, _, _, e, hf => exDraw_cont e hf
  | .exit _, _, _, _, e, _ => ⟨0, e⟩
  | .ret, _, _, _, e, _ => ⟨0, e⟩
  | .bad, _, _, _, e, hf => absurd e.symm hf
  | .seq a b, τ, h, out, e, hf => by
    have e : thenI (sem N (W pl imp T) b) (sem N (W pl imp T) a τ h) = out := e
    have h1 := thenI_ne e hf
    obtain ⟨n1, k1⟩ := sem_cont a rfl h1
    cases q : sem N (W pl imp T) a τ h with
    | nrm τ1 h1 =>
      rw [q] at e k1
      obtain ⟨n2, k2⟩ := sem_cont b e hf
      refine ⟨max n1 n2, ?_⟩
      show thenI _ (sem N (U pl imp T (max n1 n2)) a τ h) = out
      rw [sem_mono (U_mono (Nat.le_max_left n1 n2)) (Nat.le_refl _) a k1 (by intro h; cases h)]
      exact sem_mono (U_mono (Nat.le_max_right n1 n2)) (Nat.le_refl _) b k2 hf
    | ret _ _ => rw [q] at e k1; exact ⟨n1, by show thenI _ (sem N (U pl imp T n1) a τ h) = out; rw [k1]; exact e⟩
    | exit _ _ _ => rw [q] at e k1; exact ⟨n1, by show thenI _ (sem N (U pl imp T n1) a τ h) = out; rw [k1]; exact e⟩
    | fail => exact absurd q h1
  | .cond o a b, τ, h, out, e, hf => by
    have e : condI (sem N (W pl imp T) a τ h) (sem N (W pl imp T) b τ h) (o.ev τ) = out := e
    have goal : ∀ n, sem N (U pl imp T n) (.cond o a b) τ h = condI (sem N (U pl imp T n) a τ h) (sem N (U pl imp T n) b τ h) (o.ev τ) := fun _ => rfl
    simp only [goal]
    generalize o.ev τ = v at e ⊢
    unfold condI at e ⊢
    split at e
    · exact sem_cont a e hf
    · exact sem_cont b e hf
    · exact absurd e.symm hf
  | .block id b, τ, h, out, e, hf => by
    have e : blockI id (sem N (W pl imp T) b τ h) = out := e
    have h1 : sem N (W pl imp T) b τ h ≠ .fail := by intro q; rw [q] at e; exact hf e.symm
    obtain ⟨n, hn⟩ := sem_cont b rfl h1
    exact ⟨n, by show blockI id (sem N (U pl imp T n) b τ h) = out; rw [hn]; exact e⟩
  | .loop b, τ, h, out, e, hf => loopN_cont (b := fun cf => sem N cf b) (fun _ _ hc _ _ _ e hf => sem_mono hc (Nat.le_refl _) b e hf) (fun _ _ _ e hf => sem_cont b e hf) (show loopN (sem N (W pl imp T) b) N τ h = out from e) hf

theorem callT_cont {N : Nat} {f : Pos} {args : List IV} {h : Hp} {r : IV × Hp} (e : callT T N (W pl imp T) f args h = some r) : ∃ n, callT T N (U pl imp T n) f args h = some r := by
  unfold callT at e ⊢
  split at e
  · cases e
  · rename_i fn hfn
    unfold callFn at e ⊢
    have h1 : sem N (W pl imp T) fn.body (frameOf args .h .nil) h ≠ .fail := by intro q; rw [q] at e; cases e
    obtain ⟨n, hn⟩ := sem_cont fn.body rfl h1
    exact ⟨n, by rw [hn]; exact e⟩
theorem stepP_cont {N : Nat} {f : Pos} {args : List IV} {h : Hp} {r : IV × Hp} (e : stepP pl imp T N (W pl imp T) f args h = some r) : W pl imp T f args h = some r := by
  have : ∃ n, stepP pl imp T N (U pl imp T n) f args h = some r := by
    unfold stepP at e ⊢
    cases c : imp f with
    | true => rw [c] at e; exact callT_cont e
    | false =>
      rw [c] at e
      have e : pureC pl (callT T N (W pl imp T)) f args h = some r := e
      show ∃ n, pureC pl (callT T N (U pl imp T n)) f args h = some r
      unfold pureC at e ⊢
      split at e
      case h_2 => cases e
      rename_i args' h1 e1
      split at e
      · exact ⟨0, e⟩
      · split at e
        case h_2 => cases e
        rename_i r0 h2 e2
        obtain ⟨n, hn⟩ := callT_cont e2
        exact ⟨n, by rw [hn]; exact e⟩
  obtain ⟨n, hn⟩ := this
  refine W_some.2 ⟨max n N + 1, ?_⟩
  show stepP pl imp T (max n N + 1) (callP pl imp T (max n N + 1) (max n N)) f args h = some r
  exact stepP_mono (CLe.trans (U_mono (Nat.le_max_left n N)) (callP_mono (by omega) (Nat.le_refl _))) (by omega) _ _ _ _ hn

/-! ### Code without bounds -/
open Classical in
noncomputable def semW (cf : CallF) (c : ICode) (τ : Fm) (h : Hp) : Out := if e : ∃ N, sem N cf c τ h ≠ .fail then sem (Classical.choose e) cf c τ h else .fail
section
variable {cf : CallF}
theorem semW_of {N : Nat} {c : ICode} {τ : Fm} {h : Hp} {out : Out} (e : sem N cf c τ h = out) (hf : out ≠ .fail) : semW cf c τ h = out := by
  unfold semW
  have he : ∃ N, sem N cf c τ h ≠ .fail := ⟨N, by rw [e]; exact hf⟩
  rw [dif_pos he]
  have h1 := Classical.choose_spec he
  have a1 := sem_mono (CLe.refl cf) (Nat.le_max_left (Classical.choose he) N) c rfl h1
  have a2 := sem_mono (CLe.refl cf) (Nat.le_max_right (Classical.choose he) N) c e hf
  rw [← a1, a2]
theorem semW_inv {c : ICode} {τ : Fm} {h : Hp} {out : Out} (e : semW cf c τ h = out) (hf : out ≠ .fail) : ∃ N, sem N cf c τ h = out := by
  unfold semW at e
  split at e
  · exact ⟨_, e⟩
  · exact absurd e.symm hf
theorem semW_iff {c : ICode} {τ : Fm} {h : Hp} {out : Out} (hf : out ≠ .fail) : semW cf c τ h = out ↔ ∃ N, sem N cf c τ h = out := ⟨fun e => semW_inv e hf, fun ⟨_, e⟩ => semW_of e hf⟩
theorem out_ext {a b : Out} (h1 : ∀ out, out ≠ .fail → a = out → b = out) (h2 : ∀ out, out ≠ .fail → b = out → a = out) : a = b := by
  by_cases c : a = .fail
  · by_cases d : b = .fail
    · rw [c, d]
    · exact h2 b d rfl
  · exact (h1 a c rfl).symm

theorem semW_skip (τ : Fm) (h : Hp) : semW cf .skip τ h = .nrm τ h := semW_of (N := 0) rfl (by intro e; cases e)
theorem semW_ret (τ : Fm) (h : Hp) : semW cf .ret τ h = .ret τ h := semW_of (N := 0) rfl (by intro e; cases e)
theorem semW_exit (id : Nat) (τ : Fm) (h : Hp) : semW cf (.exit id) τ h = .exit id τ h := semW_of (N := 0) rfl (by intro e; cases e)
theorem semW_ops (l : List IOper) (τ : Fm) (h : Hp) : semW cf (.ops l) τ h = exOps cf l τ h :=
  out_ext (fun out hf e => by obtain ⟨N, e⟩ := semW_inv e hf; exact e) (fun out hf e => semW_of (N := 0) e hf)
theorem semW_draw (l : List IOper) (τ : Fm) (h : Hp) : semW cf (.draw l) τ h = exDraw cf l 0 ⟨[], []⟩ τ h :=
  out_ext (fun out hf e => by obtain ⟨N, e⟩ := semW_inv e hf; exact e) (fun out hf e => semW_of (N := 0) e hf)
theorem semW_seq (a b : ICode) (τ : Fm) (h : Hp) : semW cf (.seq a b) τ h = thenI (semW cf b) (semW cf a τ h) := by
  refine out_ext (fun out hf e => ?_) (fun out hf e => ?_)
  · obtain ⟨N, e⟩ := semW_inv e hf
    have e : thenI (sem N cf b) (sem N cf a τ h) = out := e
    have h1 := thenI_ne e hf
    rw [semW_of rfl h1]
    cases q : sem N cf a τ h with
    | nrm τ1 h1 => rw [q] at e; exact semW_of e hf
    | ret _ _ => rw [q] at e; exact e
    | exit _ _ _ => rw [q] at e; exact e
    | fail => exact absurd q h1
  · have h1 := thenI_ne e hf
    obtain ⟨N, hN⟩ := semW_inv rfl h1
    cases q : semW cf a τ h with
    | nrm τ1 h1 =>
      rw [q] at e hN
      obtain ⟨M, hM⟩ := semW_inv (show semW cf b τ1 h1 = out from e) hf
      refine semW_of (N := max N M) ?_ hf
      show thenI (sem (max N M) cf b) (sem (max N M) cf a τ h) = out
      rw [sem_mono (CLe.refl cf) (Nat.le_max_left N M) a hN (by intro h; cases h)]
      exact sem_mono (CLe.refl cf) (Nat.le_max_right N M) b hM hf
    | ret _ _ => rw [q] at e hN; exact semW_of (N := N) (by show thenI (sem N cf b) (sem N cf a τ h) = out; rw [hN]; exact e) hf
    | exit _ _ _ => rw [q] at e hN; exact semW_of (N := N) (by show thenI (sem N cf b) (sem N cf a τ h) = out; rw [hN]; exact e) hf
    | fail => exact absurd q h1
theorem semW_cond (o : Od) (a b : ICode) (τ : Fm) (h : Hp) : semW cf (.cond o a b) τ h = condI (semW cf a τ h) (semW cf b τ h) (o.ev τ) := by
  have eq : ∀ N, sem N cf (.cond o a b) τ h = condI (sem N cf a τ h) (sem N cf b τ h) (o.ev τ) := fun _ => rfl
  refine out_ext (fun out hf e => ?_) (fun out hf e => ?_)
  · obtain ⟨N, e⟩ := semW_inv e hf
    rw [eq] at e
    generalize o.ev τ = v at e ⊢
    unfold condI at e ⊢
    split at e
    · exact semW_of e hf
    · exact semW_of e hf
    · exact absurd e.symm hf
  · rw [semW_iff hf]
    simp only [eq]
    generalize o.ev τ = v at e ⊢
    unfold condI at e ⊢
    split at e
    · exact semW_inv e hf
    · exact semW_inv e hf
    · exact absurd e.symm hf
theorem semW_block (id : Nat) (b : ICode) (τ : Fm) (h : Hp) : semW cf (.block id b) τ h = blockI id (semW cf b τ h) := by
  refine out_ext (fun out hf e => ?_) (fun out hf e => ?_)
  · obtain ⟨N, e⟩ := semW_inv e hf
    have e : blockI id (sem N cf b τ h) = out := e
    have h1 : sem N cf b τ h ≠ .fail := by intro q; rw [q] at e; exact hf e.symm
    rw [semW_of rfl h1]
    exact e
  · have h1 : semW cf b τ h ≠ .fail := by intro q; rw [q] at e; exact hf e.symm
    obtain ⟨N, hN⟩ := semW_inv rfl h1
    exact semW_of (N := N) (by show blockI id (sem N cf b τ h) = out; rw [hN]; exact e) hf
theorem semW_loop (b : ICode) (τ : Fm) (h : Hp) : semW cf (.loop b) τ h = thenI (semW cf (.loop b)) (semW cf b τ h) := by
  refine out_ext (fun out hf e => ?_) (fun out hf e => ?_)
  · obtain ⟨N, e⟩ := semW_inv e hf
    cases N with
    | zero => exact absurd (show Out.fail = out from e).symm hf
    | succ N =>
      have e : thenI (loopN (sem (N + 1) cf b) N) (sem (N + 1) cf b τ h) = out := e
      have h1 := thenI_ne e hf
      rw [semW_of rfl h1]
      cases q : sem (N + 1) cf b τ h with
      | nrm τ1 h1 =>
        rw [q] at e
        refine semW_of (N := N + 1) ?_ hf
        exact loopN_mono (fun _ _ _ e _ => e) (Nat.le_succ N) (show loopN (sem (N + 1) cf b) N τ1 h1 = out from e) hf
      | ret _ _ => rw [q] at e; exact e
      | exit _ _ _ => rw [q] at e; exact e
      | fail => exact absurd q h1
  · have h1 := thenI_ne e hf
    obtain ⟨N, hN⟩ := semW_inv rfl h1
    cases q : semW cf b τ h with
    | nrm τ1 h1 =>
      rw [q] at e hN
      obtain ⟨M, hM⟩ := semW_inv (show semW cf (.loop b) τ1 h1 = out from e) hf
      have hM : loopN (sem M cf b) M τ1 h1 = out := hM
      refine semW_of (N := max N M + 1) ?_ hf
      show thenI (loopN (sem (max N M + 1) cf b) (max N M)) (sem (max N M + 1) cf b τ h) = out
      rw [sem_mono (CLe.refl cf) (show N ≤ max N M + 1 by omega) b hN (by intro h; cases h)]
      exact loopN_mono (fun _ _ _ e hf => sem_mono (CLe.refl cf) (by omega) b e hf) (show M ≤ max N M by omega) hM hf
    | ret _ _ => rw [q] at e hN; exact semW_of (N := N + 1) (by
        show thenI _ (sem (N + 1) cf b τ h) = out
        rw [sem_mono (CLe.refl cf) (Nat.le_succ N) b hN (by intro h; cases h)]; exact e) hf
    | exit _ _ _ => rw [q] at e hN; exact semW_of (N := N + 1) (by
        show thenI _ (sem (N + 1) cf b τ h) = out
        rw [sem_mono (CLe.refl cf) (Nat.le_succ N) b hN (by intro h; cases h)]; exact e) hf
    | fail => exact absurd q h1
end

/-! ### Calls without bounds -/
noncomputable def runW (cf : CallF) (fn : IFn) (args : List IV) (h : Hp) : Option (IV × Hp) := leaveI fn.res (semW cf fn.body (frameOf args .h .nil) h)
theorem runW_inv {cf : CallF} {fn : IFn} {args : List IV} {h : Hp} {r : IV × Hp} (e : runW cf fn args h = some r) : ∃ N, callFn N cf fn args h = some r := by
  unfold runW at e
  have h1 : semW cf fn.body (frameOf args .h .nil) h ≠ .fail := by intro q; rw [q] at e; cases e
  obtain ⟨N, hN⟩ := semW_inv rfl h1
  exact ⟨N, by unfold callFn; rw [hN]; exact e⟩
/-- A function that works on the caller's memory. -/
theorem W_imp {k : Pos} {fn : IFn} {args : List IV} {h : Hp} {r : IV × Hp} (hi : imp k = true) (hT : T k = some fn) (e : runW (W pl imp T) fn args h = some r) : W pl imp T k args h = some r := by
  obtain ⟨N, hN⟩ := runW_inv e
  refine stepP_cont (N := N) ?_
  unfold stepP
  rw [hi]
  show callT T N (W pl imp T) k args h = some r
  unfold callT
  rw [hT]
  exact hN
/-- A function that sees what no one writes any more alone. -/
theorem W_pure {k : Pos} {fn : IFn} {args args' : List IV} {h h1 h2 h3 : Hp} {r r' : IV} (hi : imp k = false) (hT : T k = some fn) (ha : frzs h args = some (args', h1)) (hp : pl k args' = none)
    (e : runW (W pl imp T) fn args' Hp.empty = some (r, h2)) (hr : frz h2 r = some (r', h3)) : W pl imp T k args h = some (r', h1) := by
  obtain ⟨N, hN⟩ := runW_inv e
  refine stepP_cont (N := N) ?_
  unfold stepP
  rw [hi]
  show pureC pl (callT T N (W pl imp T)) k args h = some (r', h1)
  unfold pureC
  have hN : callT T N (W pl imp T) k args' Hp.empty = some (r, h2) := by unfold callT; rw [hT]; exact hN
  rw [ha]
  simp only [hp, hN, hr]
/-- A known answer. -/
theorem W_known {k : Pos} {args args' : List IV} {h h1 : Hp} {r : IV} (hi : imp k = false) (ha : frzs h args = some (args', h1)) (hp : pl k args' = some r) : W pl imp T k args h = some (r, h1) := by
  refine stepP_cont (N := 0) ?_
  unfold stepP
  rw [hi]
  show pureC pl _ k args h = some (r, h1)
  unfold pureC
  rw [ha]
  simp only [hp]

/-- W's ANSWERS ARE THE MODEL'S. -/
theorem W_sound {P : Program} {Z : Nat → Oper → Bool} (hm : P.follows .mixedOrders = true) (hT : ∀ n f, n < 1000000 → T (pos n) = some f → compFn P Z n = some f) (hpl : PSim P pl) : CSim P (W pl imp T) := by
  intro n args h v h' hn e
  obtain ⟨m, hm'⟩ := W_some.1 e
  have := callP_sound (imp := imp) (N := m) hm hT hpl m n args h v h' hn hm'
  exact this
theorem W_tells {P : Program} {Z : Nat → Oper → Bool} (hm : P.follows .mixedOrders = true) (hT : ∀ n f, n < 1000000 → T (pos n) = some f → compFn P Z n = some f) (hpl : PSim P pl) {n : Nat} {args : List IV} {r u : IV} {h2 h3 : Hp} (hn : n < 1000000) (e : W pl imp T (pos n) args Hp.empty = some (r, h2)) (e3 : frz h2 r = some (u, h3)) : Tells P n args u := tells_of (W_sound hm hT hpl) hn e e3
end Go.Fg
