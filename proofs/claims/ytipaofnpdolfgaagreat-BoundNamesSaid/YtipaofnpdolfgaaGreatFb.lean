/- The ideal machine: indexes, slices, maps, parts, lengths. -/
import Derived.Test.YtipaofnpdolfgaaGreatFa
import Derived.Laws.Append
import Derived.Laws.AppendOwn
set_option linter.unusedSectionVars false
set_option linter.unusedSimpArgs false
set_option linter.unusedVariables false
namespace Go.Fg

theorem flatten_drop {z : Nat} : ∀ {es : List (List IV)} (i : Nat) {e : List IV}, (∀ e ∈ es, e.length = z) → es[i]? = some e → e <+: es.flatten.drop (i * z)
  | [], i, e, _, h => by simp at h
  | u :: es, 0, e, hz, h => by
    simp at h; subst h
    simp
  | u :: es, i + 1, e, hz, h => by
    have h' : es[i]? = some e := by simpa using h
    have ih := flatten_drop i (fun e he => hz e (by simp [he])) h'
    have hu := hz u (by simp)
    rw [List.flatten_cons, show (i + 1) * z = u.length + i * z by rw [Nat.add_mul, hu]; omega, List.drop_length_add_append]
    exact ih
theorem flatten_drops {z : Nat} : ∀ {es : List (List IV)} (l : Nat), (∀ e ∈ es, e.length = z) → (es.drop l).flatten = es.flatten.drop (l * z)
  | es, 0, _ => by simp
  | [], l + 1, _ => by simp
  | u :: es, l + 1, hz => by
    have ih := flatten_drops l (fun e he => hz e (by simp [he]) : ∀ e ∈ es, e.length = z)
    have hu := hz u (by simp)
    rw [List.drop_succ_cons, ih, List.flatten_cons, show (l + 1) * z = u.length + l * z by rw [Nat.add_mul, hu]; omega, List.drop_length_add_append]
theorem flatten_len {z : Nat} : ∀ {es : List (List IV)}, (∀ e ∈ es, e.length = z) → es.flatten.length = es.length * z
  | [], _ => by simp
  | u :: es, hz => by
    have ih := flatten_len (fun e he => hz e (by simp [he]) : ∀ e ∈ es, e.length = z)
    rw [List.flatten_cons, List.length_append, ih, hz u (by simp), List.length_cons, Nat.add_mul]; omega
theorem flatten_take_prefix (es : List (List IV)) (h : Nat) : (es.take h).flatten <+: es.flatten := by
  conv => rhs; rw [← List.take_append_drop h es, List.flatten_append]
  exact List.prefix_append _ _
theorem window_flatten {z : Nat} {es : List (List IV)} (l h : Nat) (hz : ∀ e ∈ es, e.length = z) : ((es.take h).drop l).flatten <+: es.flatten.drop (l * z) := by
  rw [flatten_drops l (fun e he => hz e (List.mem_of_mem_take he))]
  exact prefix_drop (flatten_take_prefix es h) _

section
variable {P : Program} {ι : Emb} {τ : Fm} {a : Act} {H : Hp} {w : World}
variable (hT : TR ι τ a) (hH : HR ι H w)

theorem rd_indexAddr (hT : TR ι τ a) (hH : HR ι H w) {o : Oper} {t : TypeId} {x ix : Operand} {r : Rd} {xs : List Od} {v : IV} (ho : o.op = .indexAddr t x ix) (hc : compOp P o = some (.rd r xs)) (hv : r.ev (evs τ xs) H = some v) : RdOk P ι H w o a v := by
  unfold compOp at hc
  rw [ho] at hc
  simp only [] at hc
  split at hc
  · rename_i e0 hd
    split at hc
    · rename_i n hn
      split at hc
      · obtain ⟨l, hl, e⟩ := rds_inv hc
        cases e
        obtain ⟨u, u', e, h1, h2⟩ := pair_inv hT hl
        have hv' : evIa n (evs τ xs) = some v := hv
        rw [e] at hv'
        unfold evIa at hv'
        split at hv'
        · rename_i b ofs m c y k i e
          injection e with e1 e2
          injection e2 with e2 _
          subst e1 e2
          obtain ⟨g1, g2⟩ := cond_some hv'
          cases g2
          simp only [Bool.and_eq_true] at g1
          have hi : i < m := by have := g1.1; rwa [Nat.blt_eq] at this
          have hy := Nat.eq_of_beq_eq_true g1.2
          subst hy
          have x2 := vr_i h2
          rcases vr_sl h1 with ⟨L, c', hL, _, _, _, x1⟩ | ⟨ad, hm, _, x1⟩
          · refine ⟨.pointer (some ⟨L.r, L.sh + (ofs + i * y), none⟩), ?_, .p _ _ L hL⟩
            have hi' : (i : Int) < m := by omega
            simp [execOp, ho, x1, x2, Instr.indexAt, run_underlying hd, asIntOf, hi', hi, run_sz hn, addr_add, Nat.add_assoc]
          · omega
        · rename_i es k i e
          injection e with e1 e2
          injection e2 with e2 _
          subst e1 e2
          have x2 := vr_i h2
          split at hv'
          · rename_i u hu
            obtain ⟨g1, g2⟩ := cond_some hv'
            cases g2
            have hy := Nat.eq_of_beq_eq_true g1
            have hi : i < es.length := (List.getElem?_eq_some_iff.1 hu).1
            rcases vr_sli h1 with ⟨l0, rr, sh, d, z, c, k1, k2, k3, k4, x1⟩ | ⟨rfl, _⟩ | ⟨rfl, _⟩
            · have hz : z = n := by rw [← hy, k3 u (List.mem_of_getElem? hu)]
              subst hz
              refine ⟨.pointer (some ⟨rr, sh + (d + i * z), none⟩), ?_, .pi _ l0 rr sh (d + i * z) k1 ?_⟩
              · have hi' : (i : Int) < es.length := by omega
                simp [execOp, ho, x1, x2, Instr.indexAt, run_underlying hd, asIntOf, hi', hi, run_sz hn, addr_add, Nat.add_assoc]
              · rw [← List.drop_drop]
                exact List.IsPrefix.trans (flatten_drop i k3 hu) (prefix_drop k2 _)
            · simp at hu
            · simp at hu
          · cases hv'
        · cases hv'
      · cases hc
    · cases hc
  · rename_i m e0 hd
    split at hc
    · rename_i n hn
      split at hc
      · obtain ⟨l, hl, e⟩ := rds_inv hc
        cases e
        obtain ⟨u, u', e, h1, h2⟩ := pair_inv hT hl
        have hv' : evIaa m n (evs τ xs) = some v := hv
        rw [e] at hv'
        unfold evIaa at hv'
        split at hv'
        · rename_i b ofs k i e
          injection e with e1 e2
          injection e2 with e2 _
          subst e1 e2
          obtain ⟨g1, g2⟩ := cond_some hv'
          cases g2
          have hi : i < m := by rwa [Nat.blt_eq] at g1
          have x2 := vr_i h2
          obtain ⟨L, hL, x1⟩ := vr_p h1
          refine ⟨.pointer (some ⟨L.r, L.sh + (ofs + i * n), none⟩), ?_, .p _ _ L hL⟩
          have hi' : (i : Int) < m := by omega
          simp [execOp, ho, x1, x2, Instr.indexAt, run_underlying hd, asIntOf, Instr.sureAddr, hi', hi, run_sz hn, addr_add, Nat.add_assoc]
        · rename_i l k i e
          injection e with e1 e2
          injection e2 with e2 _
          subst e1 e2
          obtain ⟨g1, g2⟩ := cond_some hv'
          cases g2
          have hi : i < m := by rwa [Nat.blt_eq] at g1
          have x2 := vr_i h2
          obtain ⟨l0, rr, sh, d, k1, k2, x1⟩ := vr_pi h1
          refine ⟨.pointer (some ⟨rr, sh + (d + i * n), none⟩), ?_, .pi _ l0 rr sh (d + i * n) k1 ?_⟩
          · have hi' : (i : Int) < m := by omega
            simp [execOp, ho, x1, x2, Instr.indexAt, run_underlying hd, asIntOf, Instr.sureAddr, hi', hi, run_sz hn, addr_add, Nat.add_assoc]
          · rw [← List.drop_drop]
            exact prefix_drop k2 _
        · cases hv'
      · cases hc
    · cases hc
  · cases hc

theorem rd_index (hT : TR ι τ a) (hH : HR ι H w) {o : Oper} {t : TypeId} {x ix : Operand} {r : Rd} {xs : List Od} {v : IV} (ho : o.op = .index t x ix) (hc : compOp P o = some (.rd r xs)) (hv : r.ev (evs τ xs) H = some v) : RdOk P ι H w o a v := by
  unfold compOp at hc
  rw [ho] at hc
  simp only [] at hc
  split at hc
  · rename_i hd
    obtain ⟨l, hl, e⟩ := rds_inv hc
    cases e
    obtain ⟨u, u', e, h1, h2⟩ := pair_inv hT hl
    have hv' : evIxs (evs τ xs) = some v := hv
    rw [e] at hv'
    unfold evIxs at hv'
    split at hv'
    · rename_i s k i e
      injection e with e1 e2
      injection e2 with e2 _
      subst e1 e2
      have x2 := vr_i h2
      obtain ⟨bs, hb, x1⟩ := vr_s h1
      subst hb
      split at hv'
      · rename_i c hcc
        cases hv'
        rw [List.getElem?_map] at hcc
        cases hq : bs.data.toList[i]? with
        | none => rw [hq] at hcc; cases hcc
        | some q =>
          rw [hq] at hcc
          cases hcc
          have hq' : bs[i]? = some q := by
            have h1 : bs.data[i]? = some q := by simpa using hq
            obtain ⟨h2, h3⟩ := Array.getElem?_eq_some_iff.1 h1
            exact getElem?_eq_some_iff.2 ⟨h2, h3⟩
          refine ⟨.int .u8 (q.toNat : Int), ?_, .i _ _⟩
          simp [execOp, ho, x1, x2, Instr.index, run_underlying hd, asIntOf, hq']
      · cases hv'
    · cases hv'
  · rename_i m e0 hd
    split at hc
    · rename_i n hn
      split at hc
      · rename_i hag
        obtain ⟨l, hl, e⟩ := rds_inv hc
        cases e
        obtain ⟨u, u', e, h1, h2⟩ := pair_inv hT hl
        have hv' : evIx m n (evs τ xs) = some v := hv
        rw [e] at hv'
        unfold evIx at hv'
        split at hv'
        · rename_i l k i e
          injection e with e1 e2
          injection e2 with e2 _
          subst e1 e2
          obtain ⟨g1, g2⟩ := cond_some hv'
          have hi : i < m := by rwa [Nat.blt_eq] at g1
          have hi' : (i : Int) < m := by omega
          have x2 := vr_i h2
          obtain ⟨l', hl', x1⟩ := vr_agg h1
          split at g2
          · rename_i c hcc
            cases g2
            exact ⟨.agg (l'.extract (i * n) (i * n + n)), by simp [execOp, ho, x1, x2, Instr.index, run_underlying hd, asIntOf, hi, hi', run_sz hn, part_agg hag hn], .agg _ _ (takeCells_sound hcc hl')⟩
          · cases g2
        · cases hv'
      · rename_i hag
        have hag : isAggT P e0 = false := by simpa using hag
        split at hc
        · rename_i dd hdd
          split at hc
          · rename_i h1n
            have h1n := Nat.eq_of_beq_eq_true h1n
            subst h1n
            obtain ⟨l, hl, e⟩ := rds_inv hc
            cases e
            obtain ⟨u, u', e, h1, h2⟩ := pair_inv hT hl
            have hv' : evIx1 m (evs τ xs) = some v := hv
            rw [e] at hv'
            unfold evIx1 at hv'
            split at hv'
            · rename_i l k i e
              injection e with e1 e2
              injection e2 with e2 _
              subst e1 e2
              obtain ⟨g1, g2⟩ := cond_some hv'
              have hi : i < m := by rwa [Nat.blt_eq] at g1
              have hi' : (i : Int) < m := by omega
              have x2 := vr_i h2
              obtain ⟨l', hl', x1⟩ := vr_agg h1
              rw [nth_eq] at g2
              obtain ⟨v', f1, f2⟩ := hl'.get g2
              exact ⟨v', by simp [execOp, ho, x1, x2, Instr.index, run_underlying hd, asIntOf, hi, hi', run_sz hn, part_one hag hdd (show l'[i]? = some v' by simpa using f1)], f2⟩
            · cases hv'
          · cases hc
        · cases hc
    · cases hc
  · cases hc

theorem rd_slice (hT : TR ι τ a) (hH : HR ι H w) {o : Oper} {t : TypeId} {x : Operand} {lo hi : Option Operand} {r : Rd} {xs : List Od} {v : IV} (ho : o.op = .slice t x lo hi none) (hc : compOp P o = some (.rd r xs)) (hv : r.ev (evs τ xs) H = some v) : RdOk P ι H w o a v := by
  unfold compOp at hc
  rw [ho] at hc
  simp only [] at hc
  split at hc
  · cases hc
  · rename_i l hl
    have hl' : ods (x :: (lo.toList ++ hi.toList)) = some l := hl
    obtain ⟨y, ys, h1, h2, rfl⟩ := ods_cons_inv hl'
    have g1 := od_sound hT h1
    have g2 := ods_sound hT h2
    rw [List.map_append] at g2
    have eo : ∀ q : Option Operand, q.toList.map a.eval = (q.map a.eval).toList := by intro q; cases q <;> rfl
    rw [eo, eo] at g2
    split at hc
    · rename_i e0 hd
      split at hc
      · rename_i n hn
        cases hc
        have hv' : evSlc n lo.isSome hi.isSome (y.ev τ :: evs τ ys) = some v := hv
        unfold evSlc at hv'
        split at hv'
        · rename_i b ofs m c z q e
          injection e with e1 e2
          rw [e1] at g1
          rw [e2] at g2
          obtain ⟨k1, k2⟩ := cond_some hv'
          have hz := Nat.eq_of_beq_eq_true k1
          subst hz
          split at k2
          · rename_i l h hb
            cases k2
            rcases vr_sl g1 with ⟨L, c', hL, hm, hcc, hfit, x1⟩ | ⟨ad, hm, hcc, x1⟩
            · have hmost : m ≤ capMost m c ∧ capMost m c ≤ c' := by
                unfold capMost
                rcases hcc with rfl | rfl
                · exact ⟨Nat.le_refl _, hm⟩
                · exact ⟨hm, Nat.le_refl _⟩
              obtain ⟨p1, p2, p3, p4⟩ := bounds_sound (P := P) (w := w) hb (by simp) (by simp) g2 hmost.1
              have run := p4 c' true hmost.2
              by_cases hcl : c' = l
              · subst hcl
                refine ⟨.slice (some ⟨L.r, L.sh + ofs, none⟩) (h - c') (c' - c'), ?_, ?_⟩
                · simp [execOp, ho, x1, Instr.sliceAt, Instr.slice, run_underlying hd, run, run_sz hn]
                · have e1 : h - c' = 0 := by omega
                  have e2 : c' - c' = 0 := by omega
                  rw [e1, e2]
                  refine .sle _ _ _ _ _ _ hL ?_
                  unfold capLeft
                  rcases hcc with rfl | rfl
                  · exact .inl rfl
                  · right; simp
              · refine ⟨.slice (some ⟨L.r, L.sh + (ofs + l * z), none⟩) (h - l) (c' - l), ?_, ?_⟩
                · simp [execOp, ho, x1, Instr.sliceAt, Instr.slice, run_underlying hd, run, run_sz hn, hcl, addr_add, Nat.add_assoc]
                · refine .sl _ _ _ _ _ L _ hL (by omega) ?_ ?_
                  · unfold capLeft
                    rcases hcc with rfl | rfl
                    · exact .inl rfl
                    · right; rfl
                  · have : l * z + (c' - l) * z = c' * z := by rw [← Nat.add_mul]; congr 1; omega
                    omega
            · subst hm
              have hmost : capMost 0 c = 0 := by
                unfold capMost
                rcases hcc with rfl | rfl <;> rfl
              obtain ⟨p1, p2, p3, p4⟩ := bounds_sound (P := P) (w := w) hb (by simp) (by simp) g2 (Nat.zero_le _)
              rw [hmost] at p2 p4
              have run := p4 0 true (Nat.le_refl _)
              have hl0 : l = 0 := by omega
              have hh0 : h = 0 := by omega
              subst hl0 hh0
              refine ⟨.slice (some ad) 0 0, ?_, ?_⟩
              · simp [execOp, ho, x1, Instr.sliceAt, Instr.slice, run_underlying hd, run, run_sz hn]
              · obtain ⟨L0, hL0⟩ := vr_sl_dom g1
                refine .sle _ _ _ _ _ _ hL0 ?_
                unfold capLeft
                rcases hcc with rfl | rfl
                · exact .inl rfl
                · right; rfl
          · cases k2
        · rename_i q e
          injection e with e1 e2
          rw [e1] at g1
          rw [e2] at g2
          have x1 := vr_sn g1
          split at hv'
          · rename_i p hb
            obtain ⟨l, h⟩ := p
            cases hv'
            obtain ⟨p1, p2, p3, p4⟩ := bounds_sound (P := P) (w := w) hb (by simp) (by simp) g2 (Nat.le_refl _)
            have run := p4 0 true (Nat.le_refl _)
            have hl0 : l = 0 := by omega
            have hh0 : h = 0 := by omega
            subst hl0 hh0
            exact ⟨.slice none 0 0, by simp [execOp, ho, x1, Instr.sliceAt, Instr.slice, run_underlying hd, run, run_sz hn], .sn⟩
          · cases hv'
        · rename_i es q e
          injection e with e1 e2
          rw [e1] at g1
          rw [e2] at g2
          obtain ⟨k1, k2⟩ := cond_some hv'
          have hlen : ∀ e ∈ es, e.length = n := fun e he => Nat.eq_of_beq_eq_true (List.all_eq_true.1 k1 e he)
          split at k2
          · rename_i l h hb
            cases k2
            obtain ⟨p1, p2, p3, p4⟩ := bounds_sound (P := P) (w := w) hb (by simp) (by simp) g2 (Nat.le_refl _)
            rcases vr_sli g1 with ⟨l0, rr, sh, d, z, c, q1, q2, q3, q4, x1⟩ | ⟨rfl, ad, c, x1⟩ | ⟨rfl, x1⟩
            · have run := p4 c true q4
              by_cases hcl : c = l
              · subst hcl
                have hes : (es.take h).drop c = [] := by
                  apply List.drop_eq_nil_of_le; simp; omega
                refine ⟨.slice (some ⟨rr, sh + d, none⟩) (h - c) (c - c), ?_, ?_⟩
                · simp [execOp, ho, x1, Instr.sliceAt, Instr.slice, run_underlying hd, run, run_sz hn]
                · rw [hes, show h - c = 0 by omega]
                  exact .sli0 _ _
              · refine ⟨.slice (some ⟨rr, sh + (d + l * n), none⟩) (h - l) (c - l), ?_, ?_⟩
                · simp [execOp, ho, x1, Instr.sliceAt, Instr.slice, run_underlying hd, run, run_sz hn, hcl, addr_add, Nat.add_assoc]
                · have hl : ((es.take h).drop l).length = h - l := by simp; omega
                  rw [← hl]
                  refine .sli _ l0 rr sh (d + l * n) n (c - l) q1 ?_ (fun e he => hlen e (List.mem_of_mem_take (List.mem_of_mem_drop he))) (by rw [hl]; omega)
                  rw [← List.drop_drop]
                  exact List.IsPrefix.trans (window_flatten l h hlen) (prefix_drop q2 _)
            · have run := p4 c true (Nat.zero_le _)
              simp only [List.length_nil] at run
              have hl0 : l = 0 := by simp at p2; omega
              have hh0 : h = 0 := by simpa using p2
              subst hl0 hh0
              by_cases hc0 : c = 0
              · subst hc0
                exact ⟨.slice (some ad) 0 0, by simp [execOp, ho, x1, Instr.sliceAt, Instr.slice, run_underlying hd, run, run_sz hn], by simpa using VR.sli0 ad 0⟩
              · exact ⟨.slice (some (ad.add (0 * n))) 0 c, by simp [execOp, ho, x1, Instr.sliceAt, Instr.slice, run_underlying hd, run, run_sz hn, hc0], by simpa using VR.sli0 _ c⟩
            · have run := p4 0 true (Nat.le_refl _)
              simp only [List.length_nil] at run
              have hl0 : l = 0 := by simp at p2; omega
              have hh0 : h = 0 := by simpa using p2
              subst hl0 hh0
              exact ⟨.slice none 0 0, by simp [execOp, ho, x1, Instr.sliceAt, Instr.slice, run_underlying hd, run, run_sz hn], by simpa using VR.slin⟩
          · cases k2
        · cases hv'
      · cases hc
    · rename_i hd
      cases hc
      have hv' : evSls lo.isSome hi.isSome (y.ev τ :: evs τ ys) = some v := hv
      unfold evSls at hv'
      split at hv'
      · rename_i s q e
        injection e with e1 e2
        rw [e1] at g1
        rw [e2] at g2
        obtain ⟨bs, hb, x1⟩ := vr_s g1
        subst hb
        split at hv'
        · rename_i l h hbd
          cases hv'
          have hsz : (bs.data.toList.map UInt8.toNat).length = bs.size := by rw [List.length_map, Array.length_toList]; rfl
          rw [hsz] at hbd
          obtain ⟨p1, p2, p3, p4⟩ := bounds_sound (P := P) (w := w) hbd (by simp) (by simp) g2 (Nat.le_refl _)
          have run := p4 bs.size false (Nat.le_refl _)
          refine ⟨.string (bs.extract l h), by simp [execOp, ho, x1, Instr.sliceAt, Instr.slice, run_underlying hd, run], .s _ _ ?_⟩
          rw [ByteArray.data_extract, Array.toList_extract, List.extract_eq_take_drop, ← List.map_take, ← List.map_drop, List.drop_take]
        · cases hv'
      · cases hv'
    · cases hc
end
end Go.Fg
/- The ideal machine: every reading operation. -/
namespace Go.Fg

section
variable {P : Program} {ι : Emb} {τ : Fm} {a : Act} {H : Hp} {w : World}

theorem mapOf_inv {b : Option Blk} {es : List IEnt} {c : Nat} (h : mapOf b = some (es, c)) : b = some (.map es c) ∨ b = some (.rm es c) := by
  unfold mapOf at h
  split at h
  · cases h; exact .inl rfl
  · cases h; exact .inr rfl
  · cases h
theorem mapW_inv {b : Option Blk} {es : List IEnt} {c : Nat} (h : mapW b = some (es, c)) : b = some (.map es c) := by
  unfold mapW at h
  split at h
  · cases h; rfl
  · cases h

theorem mapW_mapOf {b : Option Blk} {es : List IEnt} {c : Nat} (h : mapW b = some (es, c)) : mapOf b = some (es, c) := by rw [mapW_inv h]; rfl
/-- A map's entries. -/
theorem map_sound (hH : HR ι H w) {r : Pos} {L : Loc} {es : List IEnt} {c : Nat} (h : mapOf (H.get r) = some (es, c)) (hL : ι r = some L) : ∃ es' : Array MapEntry, w.heap[L.r]? = some (.map es' c) ∧ ERs ι es es'.toList := by
  rcases mapOf_inv h with h | h
  · exact hH.blk r _ L h hL
  · exact hH.blk r _ L h hL

/-- Keys and values. -/
def kvs (es : List IEnt) : List (IV × IV) := es.map fun e => (e.key, e.val)
theorem findI_kvs {ag : Bool} {ks : List Nat} {k : IV} : ∀ {es es2 : List IEnt} (n : Nat) {r : Option (Nat × IEnt)}, kvs es = kvs es2 → findI ag ks k es n = some r →
    ∃ r2, findI ag ks k es2 n = some r2 ∧ (r = none ∧ r2 = none ∨ ∃ i e e2, r = some (i, e) ∧ r2 = some (i, e2) ∧ e2.val = e.val)
  | [], [], n, r, _, h => by rw [findI_nil] at h; cases h; exact ⟨none, findI_nil .., .inl ⟨rfl, rfl⟩⟩
  | [], _ :: _, _, _, h, _ => by cases h
  | _ :: _, [], _, _, h, _ => by cases h
  | e :: es, e2 :: es2, n, r, h, hf => by
    simp only [kvs, List.map_cons, List.cons.injEq, Prod.mk.injEq] at h
    obtain ⟨⟨h1, h2⟩, h3⟩ := h
    rw [findI_cons] at hf ⊢
    rw [← h1]
    cases hq : eqKey ag ks k e.key with
    | none => rw [hq] at hf; cases hf
    | some b =>
      rw [hq] at hf
      cases b with
      | true => cases hf; exact ⟨_, rfl, .inr ⟨n, e, e2, rfl, rfl, h2.symm⟩⟩
      | false => exact findI_kvs (n + 1) h3 hf
theorem kvs_entsI : ∀ (ks vs : List IV) (es : List MapEntry), ks.length = es.length → vs.length = es.length → ∃ es2, kvs es2 = kvs (entsI ks vs) ∧ ∀ (ι : Emb), VRs ι ks (es.map (·.key)) → VRs ι vs (es.map (·.val)) → ERs ι es2 es
  | [], [], [], _, _ => ⟨[], rfl, fun _ _ _ => .nil⟩
  | k :: ks, v :: vs, e :: es, h1, h2 => by
    obtain ⟨es2, g1, g2⟩ := kvs_entsI ks vs es (by simpa using h1) (by simpa using h2)
    refine ⟨⟨k, v, e.born⟩ :: es2, ?_, fun ι a b => ?_⟩
    · show (k, v) :: kvs es2 = (k, v) :: kvs (entsI ks vs)
      rw [g1]
    · cases a with
      | cons _ _ _ _ a1 a2 => cases b with
        | cons _ _ _ _ b1 b2 => exact .cons _ _ _ _ a1 b1 rfl (g2 ι a2 b2)
  | [], [], _ :: _, h, _ => by cases h
  | [], _ :: _, [], _, h => by cases h
  | [], _ :: _, _ :: _, h, _ => by cases h
  | _ :: _, _, [], h, _ => by cases h
  | _ :: _, [], _ :: _, _, h => by cases h

theorem run_getObj_map {r : Nat} {es : Array MapEntry} {c : Nat} (h : w.heap[r]? = some (.map es c)) : (getObj r).run P w = .ok (.map es c) w := by
  simp [getObj, Sem.run, h]

theorem keyFits_shape {ag : Bool} {ks : List Nat} {k : IV} (h : keyFits ag ks k = true) : ag = true → ∃ l, k = .agg l ∧ l.length = ks.length := by
  intro e
  subst e
  unfold keyFits at h
  split at h
  · rename_i l
    have h' : Nat.beq (lenN l) ks.length = true := h
    exact ⟨l, rfl, by rw [← lenN_eq]; exact Nat.eq_of_beq_eq_true h'⟩
  · cases h

theorem key_ok {kt : TypeId} {ag : Bool} {ks : List Nat} {k : IV} {k' : Value} (hk : keyT P kt = some (ag, ks)) (hv : VR ι k k') (b : Bool) (hf : keyFits ag ks k = true) : (Instr.checkKey b 10000 kt k').run P w = .ok () w := by
  obtain ⟨h1, h2⟩ := keyT_facts hk
  obtain ⟨⟨d, hd⟩, hsz, hone⟩ := kinds_facts 8 kt ks h1
  cases ha : isAggT P kt with
  | false => exact checkKey_plain b 9999 hd ha (kinds_noIface h1 hd) k' w
  | true =>
    obtain ⟨l, rfl, hl⟩ := keyFits_shape hf (by rw [h2]; exact ha)
    obtain ⟨xs, g1, rfl⟩ := vr_agg hv
    exact checkKey_sound b 8 9992 kt ks h1 l xs (.agg xs) w g1 hl (by unfold formed; rw [if_pos ha])

theorem findK_inv {ag : Bool} {ks : List Nat} {k : IV} {es : List IEnt} {r : Option (Nat × IEnt)} (h : findK ag ks k es = some r) : keyFits ag ks k = true ∧ findI ag ks k es 0 = some r := cond_some h

variable (hT : TR ι τ a) (hH : HR ι H w)

theorem rd_lookup (hT : TR ι τ a) (hH : HR ι H w) {o : Oper} {t : TypeId} {x ix : Operand} {ok : Bool} {r : Rd} {xs : List Od} {v : IV} (ho : o.op = .lookup t x ix ok) (hc : compOp P o = some (.rd r xs)) (hv : r.ev (evs τ xs) H = some v) : RdOk P ι H w o a v := by
  unfold compOp at hc
  rw [ho] at hc
  simp only [] at hc
  split at hc
  · rename_i kt e0 hd
    split at hc
    · rename_i z ag ks hz hk
      obtain ⟨l, hl, e⟩ := rds_inv hc
      cases e
      obtain ⟨u, u', e, h1, h2⟩ := pair_inv hT hl
      obtain ⟨iz, vz, hiz, hzz, hvz⟩ := zeroI_sound (ι := ι) hz
      have hv' : evLook ag ks z ok H (evs τ xs) = some v := hv
      rw [e] at hv'
      simp only [evLook] at hv'
      · skip
        split at hv'
        · rename_i es hes
          have hmap : ∃ (es2 : List IEnt) (es' : Array MapEntry), kvs es2 = kvs es ∧ ERs ι es2 es'.toList ∧ (a.eval x = .map none ∧ es' = #[] ∨ ∃ r c, a.eval x = .map (some r) ∧ w.heap[r]? = some (.map es' c)) := by
            unfold entsOf at hes
            split at hes
            · cases hes; exact ⟨[], #[], rfl, .nil, .inl ⟨vr_mn h1, rfl⟩⟩
            · rename_i rr
              split at hes
              · rename_i es0 c hm
                cases hes
                obtain ⟨L, hL, x1⟩ := vr_m h1
                obtain ⟨es', g1, g2⟩ := map_sound hH hm hL
                exact ⟨_, es', rfl, g2, .inr ⟨L.r, c, x1, g1⟩⟩
              · cases hes
            · rename_i mk mv
              cases hes
              rcases vr_mi h1 with ⟨rr, hr, x1⟩ | ⟨rfl, rfl, x1⟩
              · obtain ⟨es', c, p1, p2, p3⟩ := hH.pro _ _ _ hr
                obtain ⟨es2, p4, p5⟩ := kvs_entsI mk mv es'.toList (by have := p2.length; simpa using this.symm) (by have := p3.length; simpa using this.symm)
                exact ⟨es2, es', p4, p5 _ (p2.mono ι.bare_le) (p3.mono ι.bare_le), .inr ⟨rr, c, x1, p1⟩⟩
              · exact ⟨[], #[], rfl, .nil, .inl ⟨x1, rfl⟩⟩
            · cases hes
          obtain ⟨es2, es', hkv, g1, g2⟩ := hmap
          have fin : ∀ {res : Option (Nat × IEnt)}, findK ag ks u' es2 = some res → ∃ res', Found ι es2 es'.toList 0 res res' ∧ (execOp a.eval o).run P w = .ok (.value (if ok then .tuple #[match res' with | some (_, v) => v | none => vz, .bool res'.isSome] else (match res' with | some (_, v) => v | none => vz))) w := by
            intro res hres
            obtain ⟨k1, k2⟩ := findK_inv hres
            have hck := fun b => key_ok (P := P) (w := w) hk h2 b k1
            obtain ⟨res', f1, f2⟩ := findKey_sound (P := P) w hk h2 g1 k2
            refine ⟨res', f2, ?_⟩
            rcases g2 with ⟨x1, rfl⟩ | ⟨rr, c, x1, hh⟩
            · cases res' with
              | none => cases ok <;> simp [execOp, ho, x1, Instr.lookup, run_underlying hd, hck, show (Instr.findKey kt (a.eval ix) []).run P w = _ from f1, run_zero hiz hzz]
              | some q =>
                obtain ⟨i, v'⟩ := q
                cases ok <;> simp [execOp, ho, x1, Instr.lookup, run_underlying hd, hck, show (Instr.findKey kt (a.eval ix) []).run P w = _ from f1, run_zero hiz hzz]
            · cases res' with
              | none => cases ok <;> simp [execOp, ho, x1, Instr.lookup, run_underlying hd, run_getObj_map hh, hck, f1, run_zero hiz hzz]
              | some q =>
                obtain ⟨i, v'⟩ := q
                cases ok <;> simp [execOp, ho, x1, Instr.lookup, run_underlying hd, run_getObj_map hh, hck, f1, run_zero hiz hzz]
          have conv : ∀ {r : Option (Nat × IEnt)}, findK ag ks u' es = some r → ∃ r2, findK ag ks u' es2 = some r2 ∧ (r = none ∧ r2 = none ∨ ∃ i e e2, r = some (i, e) ∧ r2 = some (i, e2) ∧ e2.val = e.val) := by
            intro r hr
            obtain ⟨k1, k2⟩ := findK_inv hr
            obtain ⟨r2, k3, k4⟩ := findI_kvs 0 hkv.symm k2
            exact ⟨r2, by unfold findK; rw [k1]; exact k3, k4⟩
          split at hv'
          · rename_i i en hres
            cases hv'
            obtain ⟨r2, hres, hc⟩ := conv hres
            rcases hc with ⟨e, _⟩ | ⟨i2, en2, en3, e, rfl, hval⟩
            · cases e
            cases e
            rw [← hval]
            obtain ⟨res', f2, frun⟩ := fin hres
            cases res' with
            | none => cases f2
            | some q =>
              obtain ⟨i', v'⟩ := q
              obtain ⟨_, _, _, e', _, he, hev, _⟩ := f2
              cases ok
              · exact ⟨_, frun, hev⟩
              · exact ⟨_, frun, .tup _ _ (.cons _ _ _ _ hev (.cons _ _ _ _ (.b true) .nil))⟩
          · rename_i hres
            cases hv'
            obtain ⟨r2, hres, hc⟩ := conv hres
            rcases hc with ⟨_, rfl⟩ | ⟨i2, en2, en3, e, _⟩
            case inr => cases e
            obtain ⟨res', f2, frun⟩ := fin hres
            cases res' with
            | some q => cases f2
            | none =>
              cases ok
              · exact ⟨_, frun, hvz⟩
              · exact ⟨_, frun, .tup _ _ (.cons _ _ _ _ hvz (.cons _ _ _ _ (.b false) .nil))⟩
          · cases hv'
        · cases hv'
    · cases hc
  · cases hc

theorem placesStruct_sound (hT : TR ι τ a) (hH : HR ι H w) {fs : Array Field} : ∀ {parts : List (Nat × Operand)} {ps : List (Nat × Nat)}, placesStruct P fs parts = some ps → ps.length = parts.length ∧ ∀ (i : Nat) (p : Nat × Nat) (q : Nat × Operand), ps[i]? = some p → parts[i]? = some q → ∃ f, fs[q.1]? = some f ∧ p.1 = f.offset ∧ sz P f.type = some p.2
  | [], ps, h => by cases h; exact ⟨rfl, fun i p q h1 => by simp at h1⟩
  | (j, x) :: parts, ps, h => by
    unfold placesStruct at h
    split at h
    · rename_i f hf
      split at h
      · rename_i n l hn hl
        cases h
        obtain ⟨h1, h2⟩ := placesStruct_sound hT hH hl
        refine ⟨by simp [h1], fun i p q e1 e2 => ?_⟩
        cases i with
        | zero =>
          simp at e1 e2
          subst e1 e2
          exact ⟨f, hf, rfl, hn⟩
        | succ i => exact h2 i p q (by simpa using e1) (by simpa using e2)
      · cases h
    · cases h

theorem mapM_places : ∀ (fs : List Field), fs.all (fun f => (sz P f.type).isSome) = true → ∃ pl, fs.mapM (fun f => (P.info? f.type).map fun i => (f.offset, i.size)) = some pl ∧ pl.length = fs.length ∧ ∀ (i : Nat) (f : Field), fs[i]? = some f → ∃ n, sz P f.type = some n ∧ pl[i]? = some (f.offset, n)
  | [], _ => ⟨[], rfl, rfl, fun i f h => by simp at h⟩
  | f :: fs, h => by
    simp only [List.all_cons, Bool.and_eq_true] at h
    obtain ⟨pl, h1, h2, h3⟩ := mapM_places fs h.2
    obtain ⟨n, hn⟩ := Option.isSome_iff_exists.1 h.1
    obtain ⟨i0, hi, hs⟩ := info_of_sz hn
    refine ⟨(f.offset, n) :: pl, by simp [List.mapM_cons, hi, h1, hs], by simp [h2], fun i g hg => ?_⟩
    cases i with
    | zero => simp at hg; subst hg; exact ⟨n, hn, by simp⟩
    | succ i => simpa using h3 i g (by simpa using hg)

theorem rd_build (hT : TR ι τ a) (hH : HR ι H w) {o : Oper} {t : TypeId} {parts : Array (Nat × Operand)} {r : Rd} {xs : List Od} {v : IV} (ho : o.op = .build t parts) (hc : compOp P o = some (.rd r xs)) (hv : r.ev (evs τ xs) H = some v) : RdOk P ι H w o a v := by
  unfold compOp at hc
  rw [ho] at hc
  simp only [] at hc
  have vals : ∀ {l : List Od}, ods (parts.toList.map (·.2)) = some l → VRs ι (evs τ l) ((parts.toList.map fun (x : Nat × Operand) => (x.1, a.eval x.2)).map (·.2)) := by
    intro l hl
    have := ods_sound hT hl
    rw [List.map_map] at this
    rw [List.map_map]
    exact this
  have done : ∀ {cells : Array Value} {l : List IV}, P.built t (parts.map fun (x : Nat × Operand) => (x.1, a.eval x.2)).toList = some cells → VRs ι l cells.toList → v = .agg l → RdOk P ι H w o a v := by
    intro cells l hb hl e
    subst e
    refine ⟨.agg cells, ?_, .agg _ _ hl⟩
    have := run_build (P := P) w t (parts.map fun (x : Nat × Operand) => (x.1, a.eval x.2)) cells hb
    simp [execOp, ho, this]
  have hparts : (parts.map fun (x : Nat × Operand) => (x.1, a.eval x.2)).toList = parts.toList.map fun (x : Nat × Operand) => (x.1, a.eval x.2) := by simp
  split at hc
  · rename_i z fs hz hd
    split at hc
    · rename_i ps hps
      split at hc
      · rename_i hall
        simp only [Bool.and_eq_true] at hall
        obtain ⟨l, hl, e⟩ := rds_inv hc
        cases e
        have hv' : evBuild z ps (evs τ xs) = some v := hv
        unfold evBuild at hv'
        split at hv'
        · rename_i l hf
          cases hv'
          obtain ⟨iz, vz, hiz, hzz, hvz⟩ := zeroI_sound (ι := ι) hz
          obtain ⟨z', hz', rfl⟩ := vr_agg hvz
          obtain ⟨pl, m1, m2, m3⟩ := mapM_places (P := P) fs.toList hall.1
          obtain ⟨s1, s2⟩ := placesStruct_sound hT hH hps
          obtain ⟨r', f1, f2⟩ := fill_sound (ι := ι) (pl.toArray[·]?) (parts.toList.map fun (x : Nat × Operand) => (x.1, a.eval x.2)) ps (evs τ xs) z l z' hf (vals hl) hz' (by simp [s1]) (fun i p q e1 e2 => by
            rw [List.getElem?_map] at e2
            cases hq : parts.toList[i]? with
            | none => rw [hq] at e2; cases e2
            | some q0 =>
              rw [hq] at e2
              cases e2
              obtain ⟨f, g1, g2, g3⟩ := s2 i p q0 e1 hq
              obtain ⟨n, k1, k2⟩ := m3 q0.1 f (by simpa using g1)
              rw [g3] at k1
              cases k1
              obtain ⟨p1, p2⟩ := p
              simp only at g2
              subst g2
              simpa using k2) hall.2
          refine done (cells := r') ?_ f2 rfl
          unfold Program.built
          rw [hparts]
          simp only [hiz, hd, hzz, m1]
          exact f1
        · cases hv'
      · cases hc
    · cases hc
  · rename_i z n e0 hz hd
    split at hc
    · rename_i m hm
      split at hc
      · rename_i hfits
        obtain ⟨l, hl, e⟩ := rds_inv hc
        cases e
        have hv' : evBuild z (placesRow m parts.toList) (evs τ xs) = some v := hv
        unfold evBuild at hv'
        split at hv'
        · rename_i l hf
          cases hv'
          obtain ⟨iz, vz, hiz, hzz, hvz⟩ := zeroI_sound (ι := ι) hz
          obtain ⟨z', hz', rfl⟩ := vr_agg hvz
          obtain ⟨ie, hie, hs⟩ := info_of_sz hm
          obtain ⟨r', f1, f2⟩ := fill_sound (ι := ι) (fun i => some (i * m, m)) (parts.toList.map fun (x : Nat × Operand) => (x.1, a.eval x.2)) (placesRow m parts.toList) (evs τ xs) z l z' hf (vals hl) hz' (by simp [placesRow]) (fun i p q e1 e2 => by
            unfold placesRow at e1
            rw [List.getElem?_map] at e1 e2
            cases hq : parts.toList[i]? with
            | none => rw [hq] at e2; cases e2
            | some q0 => rw [hq] at e1 e2; cases e1; cases e2; rfl) hfits
          refine done (cells := r') ?_ f2 rfl
          unfold Program.built
          rw [hparts]
          simp only [hiz, hd, hzz, hie, hs]
          exact f1
        · cases hv'
      · cases hc
    · cases hc
  · cases hc
end
end Go.Fg
/- The ideal machine: every reading operation, together. -/
namespace Go.Fg

section
variable {P : Program} {ι : Emb} {τ : Fm} {a : Act} {H : Hp} {w : World}

theorem vrs_cons_inv {x : IV} {xs : List IV} {l : List Value} (h : VRs ι (x :: xs) l) : ∃ y ys, l = y :: ys ∧ VR ι x y ∧ VRs ι xs ys := by
  cases h; exact ⟨_, _, rfl, ‹_›, ‹_›⟩

theorem compCall_rd {c : Call} {t : TypeId} {r : Rd} {xs : List Od} (h : compCall P c t = some (.rd r xs)) :
    ∃ b t0, c.callee = .builtin b ∧ c.argTypes[0]? = some t0 ∧ ods c.args.toList = some xs ∧
      ((b = .len ∧ P.underlying t0 = some .string ∧ r = .lenstr) ∨ (b = .len ∧ (∃ e, P.underlying t0 = some (.slice e)) ∧ r = .lens) ∨ (b = .len ∧ (∃ k e, P.underlying t0 = some (.map k e)) ∧ r = .lenm) ∨
       (b = .cap ∧ (∃ e, P.underlying t0 = some (.slice e)) ∧ r = .capn) ∨ (b = .max ∧ (∃ k, P.underlying t0 = some (.int k)) ∧ r = .max)) := by
  unfold compCall at h
  split at h
  · split at h <;> cases h
  · cases h
  · rename_i b hb
    split at h
    · rename_i t0 ht
      split at h
      · rename_i hd; obtain ⟨l, hl, e⟩ := rds_inv h; cases e; exact ⟨_, t0, hb, ht, hl, .inl ⟨rfl, hd, rfl⟩⟩
      · rename_i e0 hd; obtain ⟨l, hl, e⟩ := rds_inv h; cases e; exact ⟨_, t0, hb, ht, hl, .inr (.inl ⟨rfl, ⟨_, hd⟩, rfl⟩)⟩
      · rename_i k e0 hd; obtain ⟨l, hl, e⟩ := rds_inv h; cases e; exact ⟨_, t0, hb, ht, hl, .inr (.inr (.inl ⟨rfl, ⟨_, _, hd⟩, rfl⟩))⟩
      · cases h
    · rename_i t0 ht
      split at h
      · rename_i e0 hd; obtain ⟨l, hl, e⟩ := rds_inv h; cases e; exact ⟨_, t0, hb, ht, hl, .inr (.inr (.inr (.inl ⟨rfl, ⟨_, hd⟩, rfl⟩)))⟩
      · cases h
    · rename_i t0 ht
      split at h
      · rename_i e0 hd; obtain ⟨l, hl, e⟩ := rds_inv h; cases e; exact ⟨_, t0, hb, ht, hl, .inr (.inr (.inr (.inr ⟨rfl, ⟨_, hd⟩, rfl⟩)))⟩
      · cases h
    · -- append
      exfalso
      split at h
      · split at h
        · split at h
          · split at h
            · cases h
            · split at h
              · obtain ⟨l, hl, e⟩ := efs_inv h; cases e
              · obtain ⟨l, hl, e⟩ := efs_inv h; cases e
              · cases h
          · cases h
        · cases h
      · cases h
    · exfalso
      split at h
      · split at h
        · split at h
          · obtain ⟨l, hl, e⟩ := efs_inv h; cases e
          · cases h
        · cases h
      · cases h
    · exfalso
      split at h
      · split at h
        · split at h
          · obtain ⟨l, hl, e⟩ := efs_inv h; cases e
          · cases h
        · cases h
      · cases h
    · cases h

theorem run_builtin {o : Oper} {c : Call} {b : Builtin} {v : Value} (ho : o.op = .call c) (hb : c.callee = .builtin b) (h : (builtin b c.argTypes o.type (c.args.map fun | .const _ => true | _ => false) (c.args.map a.eval)).run P w = .ok (.value v) w) : (execOp a.eval o).run P w = .ok (.value v) w := by
  simp [execOp, ho, resolve, hb, invoke]
  exact h

theorem maxI_sound {ι : Emb} {w : World} (k : IntKind) : ∀ (l : List IV) (x : Int) (l' : List Value) (v : IV), maxI k x l = some v → VRs ι l l' → ∃ v', (l'.foldlM Builtin.max2 (.int k x) : Sem Value).run P w = .ok v' w ∧ VR ι v v'
  | [], x, l', v, h, hl => by cases hl; cases h; exact ⟨_, by simp, .i k x⟩
  | y :: l, x, l', v, h, hl => by
    cases hl
    rename_i y' ys hy ht
    cases y <;> simp only [maxI] at h <;> try (cases h; done)
    rename_i j b
    obtain ⟨h1, h2⟩ := cond_some h
    have hj := (kEq_iff k j).1 h1
    subst hj
    have := vr_i hy
    subst this
    obtain ⟨v', g1, g2⟩ := maxI_sound k l _ ys v h2 ht
    refine ⟨v', ?_, g2⟩
    rw [ile_eq] at g1
    have e : (bif decide (b ≤ x) then x else b) = if b > x then b else x := by
      by_cases c : b ≤ x
      · rw [if_neg (by omega)]; simp [c]
      · rw [if_pos (by omega)]; simp [c]
    rw [e] at g1
    simp only [List.foldlM_cons, Sem.run_bind, Builtin.max2, Sem.run_pure, Result.andThen_ok]
    exact g1

variable (hT : TR ι τ a) (hH : HR ι H w)

theorem rd_call (hT : TR ι τ a) (hH : HR ι H w) {o : Oper} {c : Call} {r : Rd} {xs : List Od} {v : IV} (ho : o.op = .call c) (hc : compOp P o = some (.rd r xs)) (hv : r.ev (evs τ xs) H = some v) : RdOk P ι H w o a v := by
  unfold compOp at hc
  rw [ho] at hc
  simp only [] at hc
  obtain ⟨b, t0, hb, ht, hl, hcase⟩ := compCall_rd hc
  have g := ods_sound hT hl
  have args : ∀ {v' : Value}, (builtin b c.argTypes o.type (c.args.map fun | .const _ => true | _ => false) (c.args.map a.eval)).run P w = .ok (.value v') w → VR ι v v' → RdOk P ι H w o a v := fun h hv => ⟨_, run_builtin ho hb h, hv⟩
  have ge : c.args.map a.eval = (c.args.toList.map a.eval).toArray := by rw [← Array.toList_map]
  revert g hv
  generalize evs τ xs = vs
  intro hv g
  rcases hcase with ⟨rfl, hd, rfl⟩ | ⟨rfl, ⟨e, hd⟩, rfl⟩ | ⟨rfl, ⟨k, e, hd⟩, rfl⟩ | ⟨rfl, ⟨e, hd⟩, rfl⟩ | ⟨rfl, ⟨k, hd⟩, rfl⟩
  · have hv' : evLenstr vs = some v := hv
    unfold evLenstr at hv'
    split at hv'
    · rename_i s
      cases hv'
      obtain ⟨y, hy, gy⟩ := vrs1 g
      obtain ⟨bs, hbs, rfl⟩ := vr_s gy
      subst hbs
      refine args (v' := .int .i64 (bs.size : Int)) ?_ ?_
      · rw [ge, hy]; simp [builtin, Builtin.len_, ht, run_underlying hd, goInt]
      · have : (bs.data.toList.map UInt8.toNat).length = bs.size := by rw [List.length_map, Array.length_toList]; rfl
        rw [this]; exact .i _ _
    · cases hv'
  · have hv' : evLens vs = some v := hv
    unfold evLens at hv'
    split at hv'
    · rename_i bb ofs n cc z
      cases hv'
      obtain ⟨y, hy, gy⟩ := vrs1 g
      have : ∃ ad m, y = .slice (some ad) n m := by
        rcases vr_sl gy with ⟨L, c', _, _, _, _, e⟩ | ⟨ad, h0, _, e⟩
        · exact ⟨_, _, e⟩
        · subst h0; exact ⟨_, _, e⟩
      obtain ⟨ad, m, rfl⟩ := this
      refine args (v' := .int .i64 (n : Int)) ?_ (.i _ _)
      rw [ge, hy]; simp [builtin, Builtin.len_, ht, run_underlying hd, goInt]
    · cases hv'
      obtain ⟨y, hy, gy⟩ := vrs1 g
      have := vr_sn gy
      subst this
      refine args (v' := .int .i64 0) ?_ (.i _ _)
      rw [ge, hy]; simp [builtin, Builtin.len_, ht, run_underlying hd, goInt]
    · rename_i es
      cases hv'
      obtain ⟨y, hy, gy⟩ := vrs1 g
      have : ∃ ad m, y = .slice ad es.length m := by
        rcases vr_sli gy with ⟨_, _, _, _, _, _, _, _, _, _, e⟩ | ⟨h0, _, _, e⟩ | ⟨h0, e⟩
        · exact ⟨_, _, e⟩
        · subst h0; exact ⟨_, _, e⟩
        · subst h0; exact ⟨_, _, e⟩
      obtain ⟨ad, m, rfl⟩ := this
      refine args (v' := .int .i64 (es.length : Int)) ?_ (.i _ _)
      rw [ge, hy]; simp [builtin, Builtin.len_, ht, run_underlying hd, goInt]
    · cases hv'
  · have hv' : evLenm H vs = some v := hv
    unfold evLenm at hv'
    split at hv'
    · cases hv'
      obtain ⟨y, hy, gy⟩ := vrs1 g
      have := vr_mn gy
      subst this
      refine args (v' := .int .i64 0) ?_ (.i _ _)
      rw [ge, hy]; simp [builtin, Builtin.len_, ht, run_underlying hd, goInt]
    · rename_i rr
      split at hv'
      · rename_i es cl hm
        cases hv'
        obtain ⟨y, hy, gy⟩ := vrs1 g
        obtain ⟨L, hL, rfl⟩ := vr_m gy
        obtain ⟨es', h1, h2⟩ := map_sound hH hm hL
        refine args (v' := .int .i64 (es'.size : Int)) ?_ ?_
        · rw [ge, hy]; simp [builtin, Builtin.len_, ht, run_underlying hd, goInt, run_getObj_map h1]
        · have := h2.length
          rw [← this]
          simp only [Array.length_toList]
          exact .i _ _
      · cases hv'
    · rename_i mk mv
      cases hv'
      obtain ⟨y, hy, gy⟩ := vrs1 g
      rcases vr_mi gy with ⟨rr, hr, rfl⟩ | ⟨rfl, rfl, rfl⟩
      · obtain ⟨es', c, p1, p2, p3⟩ := hH.pro _ _ _ hr
        refine args (v' := .int .i64 (es'.size : Int)) ?_ ?_
        · rw [ge, hy]; simp [builtin, Builtin.len_, ht, run_underlying hd, goInt, run_getObj_map p1]
        · have := p2.length
          rw [← this]
          simp only [List.length_map, Array.length_toList]
          exact .i _ _
      · refine args (v' := .int .i64 0) ?_ (.i _ _)
        rw [ge, hy]; simp [builtin, Builtin.len_, ht, run_underlying hd, goInt]
    · cases hv'
  · have hv' : evCapn vs = some v := hv
    unfold evCapn at hv'
    split at hv'
    · cases hv'
      obtain ⟨y, hy, gy⟩ := vrs1 g
      have := vr_sn gy
      subst this
      refine args (v' := .int .i64 0) ?_ (.i _ _)
      rw [ge, hy]; simp [builtin, Builtin.cap_, ht, run_underlying hd, goInt]
    · rename_i bb ofs n cc z
      cases hv'
      obtain ⟨y, hy, gy⟩ := vrs1 g
      have : ∃ ad, y = .slice (some ad) n cc := by
        rcases vr_sl gy with ⟨L, c', _, _, hq, _, e⟩ | ⟨ad, h0, hq, e⟩
        · have : c' = cc := by omega
          subst this; exact ⟨_, e⟩
        · have : cc = 0 := by omega
          subst h0 this; exact ⟨_, e⟩
      obtain ⟨ad, rfl⟩ := this
      refine args (v' := .int .i64 (cc : Int)) ?_ (.i _ _)
      rw [ge, hy]; simp [builtin, Builtin.cap_, ht, run_underlying hd, goInt]
    · cases hv'
  · have hv' : evMax vs = some v := hv
    unfold evMax at hv'
    split at hv'
    · rename_i kk n l
      obtain ⟨y, ys, hy, gy, gt⟩ := vrs_cons_inv g
      have := vr_i gy
      subst this
      obtain ⟨v', f1, f2⟩ := maxI_sound (P := P) (ι := ι) (w := w) kk l n ys v hv' gt
      refine args (v' := v') ?_ f2
      rw [ge, hy]
      simp [builtin, Builtin.max_, f1]
    · cases hv'

/-- EVERY READING OPERATION. -/
theorem rd_sound (hT : TR ι τ a) (hH : HR ι H w) {o : Oper} {r : Rd} {xs : List Od} {v : IV} (hc : compOp P o = some (.rd r xs)) (hv : r.ev (evs τ xs) H = some v) : RdOk P ι H w o a v := by
  have hc0 := hc
  unfold compOp at hc0
  cases hop : o.op <;> rw [hop] at hc0 <;> simp only [] at hc0
  case move x => obtain ⟨y, hy, e⟩ := rd1_inv hc0; cases e; exact rd_move hT hH (.inl hop) hy hv
  case assign x => obtain ⟨y, hy, e⟩ := rd1_inv hc0; cases e; exact rd_move hT hH (.inr hop) hy hv
  case pick c x y => obtain ⟨l, hl, e⟩ := rds_inv hc0; cases e; exact rd_pick hT hH hop hl hv
  case alloc t => split at hc0 <;> cases hc0
  case box t x => obtain ⟨l, hl, e⟩ := als_inv hc0; cases e
  case build t parts => exact rd_build hT hH hop hc hv
  case buildSlice t n parts =>
    exfalso
    split at hc0
    · split at hc0
      · split at hc0
        · split at hc0
          · obtain ⟨l, hl, e⟩ := als_inv hc0; cases e
          · split at hc0
            · obtain ⟨l, hl, e⟩ := als_inv hc0; cases e
            · cases hc0
        · cases hc0
      · cases hc0
    · cases hc0
  case insert t m k v =>
    exfalso
    split at hc0
    · split at hc0
      · obtain ⟨l, hl, e⟩ := efs_inv hc0; cases e
      · cases hc0
    · cases hc0
  case load t x => exact rd_load hT hH hop hc hv
  case store t x y =>
    exfalso
    split at hc0
    · obtain ⟨l, hl, e⟩ := efs_inv hc0; cases e
    · cases hc0
  case ready => cases hc0
  case waits => cases hc0
  case nilCheck x => obtain ⟨y, hy, e⟩ := rd1_inv hc0; cases e; exact rd_nil hT hH hop hy hv
  case binOp op t x y yt =>
    split at hc0
    · exact rd_eq hT hH (neg := false) hop hc0 hv
    · exact rd_eq hT hH (neg := true) hop hc0 hv
    · split at hc0
      · obtain ⟨l, hl, e⟩ := rds_inv hc0; cases e; exact rd_bin hT hH hop hl hv
      · obtain ⟨l, hl, e⟩ := rds_inv hc0; cases e; exact rd_bins hT hH hop hl hv
      · cases hc0
  case unOp op t x => exact rd_un hT hH hop hc hv
  case convert s d x => exact rd_convert hT hH hop hc hv
  case sliceToArrayPointer => cases hc0
  case makeInterface t x => exact rd_makeInterface hT hH hop hc hv
  case makeFunc fn first captured => exact rd_makeFunc hT hH hop hc hv
  case makeMap t r =>
    cases r <;> simp at hc0
  case makeChan => cases hc0
  case makeSlice t l c =>
    exfalso
    split at hc0
    · split at hc0
      · split at hc0
        · obtain ⟨l, hl, e⟩ := als_inv hc0; cases e
        · cases hc0
      · cases hc0
    · cases hc0
  case slice t x lo hi mx =>
    cases mx with
    | none => exact rd_slice hT hH hop hc hv
    | some _ => cases hc0
  case fieldAddr t x f => exact rd_fieldAddr hT hH hop hc hv
  case field t x f => exact rd_field hT hH hop hc hv
  case indexAddr t x ix => exact rd_indexAddr hT hH hop hc hv
  case index t x ix => exact rd_index hT hH hop hc hv
  case lookup t x ix ok => exact rd_lookup hT hH hop hc hv
  case mapUpdate t m k v =>
    exfalso
    split at hc0
    · split at hc0
      · obtain ⟨l, hl, e⟩ := efs_inv hc0; cases e
      · cases hc0
    · cases hc0
  case mapEntry t m k =>
    exfalso
    split at hc0
    · split at hc0
      · obtain ⟨l, hl, e⟩ := efs_inv hc0; cases e
      · cases hc0
    · cases hc0
  case entryStore t m s v =>
    exfalso
    obtain ⟨l, hl, e⟩ := efs_inv hc0; cases e
  case range => cases hc0
  case next => cases hc0
  case entry => cases hc0
  case typeAssert => cases hc0
  case extract x i => obtain ⟨y, hy, e⟩ := rd1_inv hc0; cases e; exact rd_extract hT hH hop hy hv
  case call c => exact rd_call hT hH hop hc hv
  case go => cases hc0
  case defer => cases hc0
  case panic => cases hc0
  case send => cases hc0
  case recv => cases hc0
  case select => cases hc0
end
end Go.Fg
/- The ideal machine: operations that make a block. -/



namespace Go.Fg

section
variable {P : Program} {ι : Emb} {τ : Fm} {a : Act} {H : Hp} {w : World}

/-- An operation that makes one block, which is to stand for the ideal block 'id'. -/
def AlOk (P : Program) (ι : Emb) (w : World) (o : Oper) (a : Act) (id : Pos) (x : Blk) (v : IV) : Prop :=
  ∃ v' w' L ob, (execOp a.eval o).run P w = .ok (.value v') w' ∧ w'.heap = w.heap.push ob ∧ sameOut w w' ∧ L.r = w.heap.size ∧ ∀ ι' : Emb, ι.le ι' → ι' id = some L → VR ι' v v' ∧ BR ι' x L w'

/-- A new row of cells. -/
theorem br_new {ι' : Emb} {l : List IV} {c : Array Value} {e : TypeId} {lo hi n : Nat} {w w' : World} (hw : w'.heap[w.heap.size]? = some (.cells c e (lo, hi))) (hl : l.length = n) (hn : n ≤ c.size) (hf : ∀ o, o < c.size → ¬ (lo ≤ o ∧ o < hi))
    (hv : ∀ (i : Nat) (v : IV), l[i]? = some v → ∃ v', c[i]? = some v' ∧ VR ι' v v') : BR ι' (.cells n l) ⟨w.heap.size, 0, c.size⟩ w' :=
  ⟨hl, by simpa using hn, c, e, lo, hi, hw, rfl, hf, fun i v h => by simpa using hv i v h⟩

theorem push_get {h : Array Obj} {ob : Obj} : (h.push ob)[h.size]? = some ob := by simp

theorem push_modify {h : Array Obj} {ob : Obj} {f : Obj → Obj} : (h.push ob).modify h.size f = h.push (f ob) := by
  apply Array.ext
  · simp
  · intro i h1 h2
    simp only [Array.getElem_modify, Array.getElem_push]
    split
    · rename_i e; subst e; simp
    · rename_i e
      simp at h1
      rw [dif_pos (by omega), dif_pos (by omega)]

theorem vrs_get' {ι' : Emb} {l : List IV} {c : Array Value} (h : VRs ι' l c.toList) : ∀ (i : Nat) (v : IV), l[i]? = some v → ∃ v', c[i]? = some v' ∧ VR ι' v v' := fun i v hv => by
  obtain ⟨v', h1, h2⟩ := h.get hv
  exact ⟨v', by simpa using h1, h2⟩

theorem repeatCells_zero (z : List IV) : repeatCells z 0 = [] := rfl
theorem repeatCells_succ (z : List IV) (n : Nat) : repeatCells z (n + 1) = z ++ repeatCells z n := app_eq z (repeatCells z n)
theorem repeatCells_length (z : List IV) : ∀ n, (repeatCells z n).length = n * z.length
  | 0 => by rw [repeatCells_zero]; simp
  | n + 1 => by rw [repeatCells_succ, List.length_append, repeatCells_length z n, Nat.add_mul]; omega

/-- Zero cells, again and again. -/
theorem zeros_sound {ι : Emb} {z : List IV} {z' : Array Value} (h : VRs ι z z'.toList) (hz : 0 < z.length) : ∀ n, VRs ι (repeatCells z n) ((List.range (n * z'.size)).map (fun i => z'[i % z'.size]!)) := by
  have hsz : z'.size = z.length := by rw [← h.length]; simp
  have get : ∀ n (i : Nat) (v : IV), (repeatCells z n)[i]? = some v → i < n * z.length ∧ z[i % z.length]? = some v := by
    intro n
    induction n with
    | zero => intro i v hv; rw [repeatCells_zero] at hv; simp at hv
    | succ n ih =>
      intro i v hv
      rw [repeatCells_succ] at hv
      by_cases c : i < z.length
      · rw [List.getElem?_append_left c] at hv
        rw [Nat.mod_eq_of_lt c, Nat.add_mul]
        exact ⟨by omega, hv⟩
      · rw [List.getElem?_append_right (by omega)] at hv
        obtain ⟨h1, h2⟩ := ih _ _ hv
        rw [Nat.add_mul]
        refine ⟨by omega, ?_⟩
        rw [show i = (i - z.length) + z.length by omega, Nat.add_mod_right]
        exact h2
  intro n
  refine VRs.of_get (by rw [repeatCells_length]; simp [hsz]) fun i v hv => ?_
  obtain ⟨h1, h2⟩ := get n i v hv
  obtain ⟨v', g1, g2⟩ := h.get h2
  refine ⟨v', ?_, g2⟩
  rw [hsz]
  rw [List.getElem?_map, List.getElem?_range h1]
  have : z'[i % z.length]? = some v' := by simpa using g1
  show some (z'[i % z.length]!) = some v'
  rw [getElem!_def, this]

variable (hT : TR ι τ a)

theorem al_alloc (hT : TR ι τ a) {o : Oper} {e : TypeId} {z : IV} {id : Pos} (ho : o.op = .alloc e) (hz : zeroI P e = some z) : AlOk P ι w o a id (.cells (lenN z.cells) z.cells) (.p id 0) := by
  obtain ⟨iz, vz, hiz, hzz, hvz⟩ := zeroI_sound (ι := ι) hz
  have hc := vr_cells hvz
  refine ⟨.pointer (some ⟨w.heap.size, 0, none⟩), { w with heap := w.heap.push (.cells vz.cells e) }, ⟨w.heap.size, 0, vz.cells.size⟩, _, ?_, rfl, ⟨rfl, rfl, rfl, frozen_push w _ _⟩, rfl, fun ι' hle hid => ⟨?_, ?_⟩⟩
  · simp [execOp, ho, Instr.alloc, run_zero hiz hzz, newVar, newRow]
  · exact .p id 0 _ hid
  · refine br_new push_get (by rw [lenN_eq]) (by rw [lenN_eq, ← hc.length]; simp) (by omega) (vrs_get' (hc.mono hle))

theorem al_box (hT : TR ι τ a) {o : Oper} {e : TypeId} {x : Operand} {y : Od} {id : Pos} (ho : o.op = .box e x) (hy : od x = some y) : AlOk P ι w o a id (.cells (lenN (y.ev τ).cells) (y.ev τ).cells) (.p id 0) := by
  have hc := vr_cells (od_sound hT hy)
  refine ⟨.pointer (some ⟨w.heap.size, 0, none⟩), { w with heap := w.heap.push (.cells (a.eval x).cells e) }, ⟨w.heap.size, 0, (a.eval x).cells.size⟩, _, ?_, rfl, ⟨rfl, rfl, rfl, frozen_push w _ _⟩, rfl, fun ι' hle hid => ⟨?_, ?_⟩⟩
  · simp [execOp, ho, Instr.box, newVar, newRow]
  · exact .p id 0 _ hid
  · refine br_new push_get (by rw [lenN_eq]) (by rw [lenN_eq, ← hc.length]; simp) (by omega) (vrs_get' (hc.mono hle))

theorem al_map (hT : TR ι τ a) {o : Oper} {t : TypeId} {id : Pos} (ho : o.op = .makeMap t none) : AlOk P ι w o a id (.map [] 0) (.m id) := by
  refine ⟨.map (some w.heap.size), { w with heap := w.heap.push (.map #[] 0) }, ⟨w.heap.size, 0, 0⟩, _, ?_, rfl, ⟨rfl, rfl, rfl, frozen_map w _ _⟩, rfl, fun ι' hle hid => ⟨?_, ?_⟩⟩
  · simp [execOp, ho, Instr.makeMap]
  · exact .m id _ hid
  · exact ⟨#[], push_get, .nil⟩

theorem al_makeSlice (hT : TR ι τ a) {o : Oper} {t e : TypeId} {l c : Operand} {ys : List Od} {id : Pos} {n bs : Nat} {z : IV} {x : Blk} {v : IV} (ho : o.op = .makeSlice t l c) (hd : P.underlying t = some (.slice e)) (hn : sz P e = some n) (hb : byts P e = some bs) (hz : zeroI P e = some z)
    (hok : okSize n bs = true) (hzn : (lenN z.cells) = n) (hys : ods [l, c] = some ys) (hv : alMks z.cells n bs id (evs τ ys) = some (x, v)) : AlOk P ι w o a id x v := by
  obtain ⟨u, u', e0, h1, h2⟩ := pair_inv hT hys
  rw [e0] at hv
  unfold alMks at hv
  split at hv
  · rename_i k1 ll k2 cc e1
    injection e1 with e1 e2
    injection e2 with e2 _
    subst e1 e2
    obtain ⟨g1, g2⟩ := cond_some hv
    cases g2
    simp only [Bool.and_eq_true] at g1
    have hlc := Nat.le_of_ble_eq_true g1.1
    have hcb := Nat.le_of_ble_eq_true g1.2
    have x1 := vr_i h1
    have x2 := vr_i h2
    obtain ⟨i, hi, hs⟩ := info_of_sz hn
    have hbs : i.bytes = bs := by unfold byts at hb; rw [hi] at hb; cases hb; rfl
    obtain ⟨iz, vz, hiz, hzz, hvz⟩ := zeroI_sound (ι := ι) hz
    rw [hi] at hiz; cases hiz
    have hcz := vr_cells hvz
    rw [lenN_eq] at hzn
    unfold okSize at hok
    simp only [Bool.and_eq_true] at hok
    have hn1 := Nat.le_of_ble_eq_true hok.1.1
    have hb1 := Nat.le_of_ble_eq_true hok.1.2
    have hvsz : vz.cells.size = n := by rw [← hzn, ← hcz.length]; simp
    have hcc : cc ≤ 100000000000 := by
      have : cc * 1 ≤ cc * bs := Nat.mul_le_mul_left _ hb1
      unfold bound at hcb
      omega
    have wl : IntKind.i64.wrap (ll : Int) = ll := IntWalk.i64_in _ (by omega)
    have wc : IntKind.i64.wrap (cc : Int) = cc := IntWalk.i64_in _ (by omega)
    have hbig : ¬ ((281474976710656 : Int) < (bs : Int) * (cc : Int)) := by
      have : (bs : Int) * (cc : Int) = ((cc * bs : Nat) : Int) := by rw [Nat.mul_comm]; simp
      rw [this]
      unfold bound at hcb
      omega
    have hll : ¬ ((ll : Int) < 0) := by omega
    have hcc0 : ¬ ((cc : Int) < 0) := by omega
    have hlc' : ¬ ((cc : Int) < (ll : Int)) := by omega
    refine ⟨.slice (some ⟨w.heap.size, 0, none⟩) ll cc, { w with heap := w.heap.push (.cells ((Array.range (cc * n)).map (vz.cells[· % vz.cells.size]!)) e) }, ⟨w.heap.size, 0, cc * n⟩, _, ?_, rfl, ⟨rfl, rfl, rfl, frozen_push w _ _⟩, rfl, fun ι' hle hid => ⟨?_, ?_⟩⟩
    · by_cases h0 : cc * n = 0
      · have hc0 : cc = 0 := by
          rcases Nat.mul_eq_zero.1 h0 with h | h
          · exact h
          · omega
        subst hc0
        have hl0 : ll = 0 := by omega
        subst hl0
        have w0 : IntKind.i64.wrap (0 : Int) = 0 := IntWalk.i64_in _ (by omega)
        simp [w0, show Array.range 0 = (#[] : Array Nat) from rfl, execOp, ho, x1, x2, Instr.makeSlice, run_underlying hd, asInt, asIntOf, typeInfo, hi, hbs, wl, wc, hbig, hll, hcc0, hlc', sizeOf, hs, h0, newRow]
      · simp [execOp, ho, x1, x2, Instr.makeSlice, run_underlying hd, asInt, asIntOf, typeInfo, hi, hbs, wl, wc, hbig, hll, hcc0, hlc', sizeOf, hs, h0, zeroValue, hzz, newRow]
    · exact .sl id 0 ll (cc + 1) n ⟨w.heap.size, 0, cc * n⟩ cc hid hlc (.inr rfl) (by simp)
    · have hze := zeros_sound hcz (by omega) cc
      have := br_new (ι' := ι') (l := repeatCells z.cells cc) (c := (Array.range (cc * n)).map (vz.cells[· % vz.cells.size]!)) (e := e) (lo := 0) (hi := 0) (n := cc * n) (w := w) (w' := { w with heap := w.heap.push (.cells ((Array.range (cc * n)).map (vz.cells[· % vz.cells.size]!)) e) }) push_get (by rw [repeatCells_length, hzn]) (by simp) (by omega) (vrs_get' (by
        have := hze.mono hle
        rw [hvsz] at this
        simpa [hvsz, Array.toList_range] using this))
      simpa using this
  · cases hv

theorem rowsI_cons (w : Nat) (v : IV) (vs : List IV) : rowsI w (v :: vs) = cond (Nat.beq (lenN v.cells) w) (match rowsI w vs with
    | some l => some (app v.cells l)
    | none => none) none := rfl
theorem lay_all : ∀ (vs z : List IV), vs.length ≤ z.length → lay vs z = vs ++ z.drop vs.length
  | [], z, _ => rfl
  | v :: vs, [], h => by simp at h
  | v :: vs, x :: z, h => by show v :: lay vs z = _; rw [lay_all vs z (by simpa using h)]; simp
theorem layAt_append : ∀ (pre vs z : List IV), vs.length ≤ z.length → layAt pre.length vs (pre ++ z) = pre ++ (vs ++ z.drop vs.length)
  | [], vs, z, h => by show lay vs z = _; rw [lay_all vs z h]; rfl
  | p :: pre, vs, z, h => by show p :: layAt pre.length vs (pre ++ z) = _; rw [layAt_append pre vs z h]; rfl

theorem fillI_rows (w : Nat) : ∀ (vs : List IV) (k : Nat) (pre z l : List IV), pre.length = k * w → z.length = vs.length * w → rowsI w vs = some l → ∀ ps : List (Nat × Operand), ps.length = vs.length → inOrder k ps = true →
    fillI (placesRow w ps) vs (pre ++ z) = some (pre ++ l)
  | [], k, pre, z, l, h1, h2, h3, ps, h4, h5 => by
    cases ps with
    | cons _ _ => simp at h4
    | nil =>
      cases h3
      have : z = [] := List.eq_nil_of_length_eq_zero (by simpa using h2)
      subst this
      rfl
  | v :: vs, k, pre, z, l, h1, h2, h3, ps, h4, h5 => by
    cases ps with
    | nil => simp at h4
    | cons p ps =>
      rw [rowsI_cons] at h3
      obtain ⟨g1, g2⟩ := cond_some h3
      have g1' := Nat.eq_of_beq_eq_true g1
      rw [lenN_eq] at g1'
      split at g2
      · rename_i r hr
        cases g2
        simp only [inOrder, Bool.and_eq_true] at h5
        have hp := Nat.eq_of_beq_eq_true h5.1
        have hlen : (v :: vs).length * w = w + vs.length * w := by simp [Nat.add_mul]; omega
        show cond (Nat.beq (lenN v.cells) w) (fillI (placesRow w ps) vs (layAt (p.1 * w) v.cells (pre ++ z))) none = _
        rw [g1, hp, ← h1, layAt_append pre v.cells z (by omega)]
        have ih := fillI_rows w vs (k + 1) (pre ++ v.cells) (z.drop v.cells.length) r (by rw [List.length_append, h1, g1', Nat.add_mul]; omega) (by rw [List.length_drop, h2, hlen, g1']; omega) hr ps (by simpa using h4) h5.2
        rw [List.append_assoc] at ih
        rw [app_eq]
        show fillI (placesRow w ps) vs (pre ++ (v.cells ++ z.drop v.cells.length)) = _
        rw [ih, List.append_assoc]
      · cases g2

theorem inOrder_mem : ∀ (ps : List (Nat × Operand)) (k : Nat), inOrder k ps = true → ∀ p ∈ ps, p.1 < k + ps.length
  | [], k, _, p, hp => by cases hp
  | q :: ps, k, h, p, hp => by
    simp only [inOrder, Bool.and_eq_true] at h
    have hq := Nat.eq_of_beq_eq_true h.1
    simp only [List.length_cons]
    cases hp with
    | head => omega
    | tail _ hp => have := inOrder_mem ps (k + 1) h.2 p hp; omega

theorem fits_rows (w n : Nat) : ∀ (ps : List (Nat × Operand)), (∀ p ∈ ps, p.1 < n) → fits (n * w) (placesRow w ps) = true
  | [], _ => rfl
  | p :: ps, h => by
    have ih := fits_rows w n ps (fun q hq => h q (List.mem_cons_of_mem _ hq))
    have hp := h p (List.mem_cons_self ..)
    have : p.1 * w + w ≤ n * w := by
      have : (p.1 + 1) * w ≤ n * w := Nat.mul_le_mul_right _ (by omega)
      rwa [Nat.add_mul, Nat.one_mul] at this
    show (Nat.ble (p.1 * w + w) (n * w) && fits (n * w) (placesRow w ps)) = true
    rw [ih, Nat.ble_eq_true_of_le this]
    rfl

theorem al_slice (hT : TR ι τ a) {o : Oper} {t e : TypeId} {len n : Nat} {parts : Array (Nat × Operand)} {ys : List Od} {id : Pos} {z : IV} {l : List IV} (ho : o.op = .buildSlice t len parts) (hd : P.underlying t = some (.slice e)) (hn : sz P e = some n) (hz : zeroI P e = some z)
    (hsize : Nat.ble (len * n) 1000000 = true) (hzn : Nat.beq (lenN z.cells) n = true) (hn1 : Nat.ble 1 n = true) (hys : ods (parts.toList.map (·.2)) = some ys) (hfit : fits (len * n) (placesRow n parts.toList) = true)
    (hv : fillI (placesRow n parts.toList) (evs τ ys) (repeatCells z.cells len) = some l) : AlOk P ι w o a id (.cells (len * n) l) (.sl id 0 len (len + 1) n) := by
  obtain ⟨i, hi, hs⟩ := info_of_sz hn
  obtain ⟨iz, vz, hiz, hzz, hvz⟩ := zeroI_sound (ι := ι) hz
  rw [hi] at hiz; cases hiz
  have hcz := vr_cells hvz
  have hzn := Nat.eq_of_beq_eq_true hzn
  rw [lenN_eq] at hzn
  have hn1 := Nat.le_of_ble_eq_true hn1
  have hsize := Nat.le_of_ble_eq_true hsize
  have hvsz : vz.cells.size = n := by rw [← hzn, ← hcz.length]; simp
  have hze := zeros_sound hcz (by omega) len
  rw [hvsz] at hze
  have vals : VRs ι (evs τ ys) ((parts.toList.map fun (x : Nat × Operand) => (x.1, a.eval x.2)).map (·.2)) := by
    have := ods_sound hT hys
    rw [List.map_map] at this
    rw [List.map_map]
    exact this
  have hz0 : VRs ι (repeatCells z.cells len) ((Array.range (len * n)).map (vz.cells[· % vz.cells.size]!)).toList := by
    simpa [hvsz, Array.toList_range] using hze
  obtain ⟨r', f1, f2⟩ := fill_sound (ι := ι) (fun i => some (i * n, n)) (parts.toList.map fun (x : Nat × Operand) => (x.1, a.eval x.2)) (placesRow n parts.toList) (evs τ ys) (repeatCells z.cells len) l _ hv vals hz0 (by simp [placesRow]) (fun i p q e1 e2 => by
    unfold placesRow at e1
    rw [List.getElem?_map] at e1 e2
    cases hq : parts.toList[i]? with
    | none => rw [hq] at e2; cases e2
    | some q0 => rw [hq] at e1 e2; cases e1; cases e2; rfl) (by rw [repeatCells_length, hzn]; exact hfit)
  have hll : l.length = len * n := by
    have fillLen : ∀ (ps : List (Nat × Nat)) (xs z r : List IV), fillI ps xs z = some r → r.length = z.length := by
      intro ps
      induction ps with
      | nil => intro xs z r h; cases xs <;> cases h; rfl
      | cons p ps ih =>
        intro xs z r h
        cases xs with
        | nil => cases h
        | cons x xs =>
          obtain ⟨g1, g2⟩ := cond_some (show cond (Nat.beq (lenN x.cells) p.2) (fillI ps xs (layAt p.1 x.cells z)) none = some r from h)
          rw [ih _ _ _ g2, length_layAt]
    rw [fillLen _ _ _ _ hv, repeatCells_length, hzn]
  have hrs : r'.size = len * n := by have := f2.length; simp at this; omega
  refine ⟨.slice (some ⟨w.heap.size, 0, none⟩) len len, { w with heap := w.heap.push (.cells r' e) }, ⟨w.heap.size, 0, r'.size⟩, _, ?_, rfl, ⟨rfl, rfl, rfl, frozen_push w _ _⟩, rfl, fun ι' hle hid => ⟨?_, ?_⟩⟩
  · have hbig : ¬ (2 ^ 24 < len * n) := by omega
    have hp : (parts.map fun (x : Nat × Operand) => (x.1, a.eval x.2)).toList = parts.toList.map fun (x : Nat × Operand) => (x.1, a.eval x.2) := by simp
    have hrun : (Instr.buildSlice t len (parts.map fun (x : Nat × Operand) => (x.1, a.eval x.2))).run P w = .ok (.slice (some ⟨w.heap.size, 0, none⟩) len len) { w with heap := w.heap.push (.cells r' e) } := by
      have hbig' : ¬ (len * n > 2 ^ 24) := hbig
      by_cases h0 : len * n = 0
      · have hl0 : len = 0 := by
          rcases Nat.mul_eq_zero.1 h0 with h | h
          · exact h
          · omega
        subst hl0
        have f1' : Instr.fill (fun i => some (i * n, n)) #[] (parts.toList.map fun (x : Nat × Operand) => (x.1, a.eval x.2)) = some r' := by simpa [show Array.range 0 = (#[] : Array Nat) from rfl] using f1
        simp only [Instr.buildSlice, Sem.run_bind, run_underlying hd, Result.andThen_ok, run_sz hn, Sem.run_ite, hbig', if_false, h0, if_true, Sem.run_pure, hp]
        simp [show Array.range 0 = (#[] : Array Nat) from rfl, f1', newRow]
      · simp only [Instr.buildSlice, Sem.run_bind, run_underlying hd, Result.andThen_ok, run_sz hn, Sem.run_ite, hbig', if_false, h0, Sem.run_pure, run_zero hi hzz, hp, f1]
        simp [newRow]
    simp [execOp, ho, hrun]
  · exact .sl id 0 len (len + 1) n ⟨w.heap.size, 0, r'.size⟩ len hid (Nat.le_refl _) (.inr rfl) (by simp [hrs])
  · exact br_new push_get hll (by omega) (by omega) (vrs_get' (f2.mono hle))

theorem compCall_no_al {c : Call} {t : TypeId} {r : Al} {xs : List Od} (h : compCall P c t = some (.al r xs)) : False := by
  unfold compCall at h
  split at h
  · split at h <;> cases h
  · cases h
  · rename_i b hb
    split at h
    · rename_i t0 ht
      split at h
      · obtain ⟨l, hl, e⟩ := rds_inv h; cases e
      · obtain ⟨l, hl, e⟩ := rds_inv h; cases e
      · obtain ⟨l, hl, e⟩ := rds_inv h; cases e
      · cases h
    · split at h
      · obtain ⟨l, hl, e⟩ := rds_inv h; cases e
      · cases h
    · split at h
      · obtain ⟨l, hl, e⟩ := rds_inv h; cases e
      · cases h
    · split at h
      · split at h
        · split at h
          · split at h
            · cases h
            · split at h
              · obtain ⟨l, hl, e⟩ := efs_inv h; cases e
              · obtain ⟨l, hl, e⟩ := efs_inv h; cases e
              · cases h
          · cases h
        · cases h
      · cases h
    · split at h
      · split at h
        · split at h
          · obtain ⟨l, hl, e⟩ := efs_inv h; cases e
          · cases h
        · cases h
      · cases h
    · split at h
      · split at h
        · split at h
          · obtain ⟨l, hl, e⟩ := efs_inv h; cases e
          · cases h
        · cases h
      · cases h
    · cases h

/-- EVERY OPERATION THAT MAKES A BLOCK. -/
theorem al_sound (hT : TR ι τ a) {o : Oper} {al : Al} {xs : List Od} {id : Pos} {x : Blk} {v : IV} (hc : compOp P o = some (.al al xs)) (hv : al.ev (evs τ xs) id = some (x, v)) : AlOk P ι w o a id x v := by
  have hc0 := hc
  unfold compOp at hc0
  cases hop : o.op <;> rw [hop] at hc0 <;> simp only [] at hc0
  case move x => obtain ⟨y, hy, e⟩ := rd1_inv hc0; cases e
  case assign x => obtain ⟨y, hy, e⟩ := rd1_inv hc0; cases e
  case pick c x y => obtain ⟨l, hl, e⟩ := rds_inv hc0; cases e
  case alloc t =>
    split at hc0
    · rename_i z hz
      cases hc0
      cases hv
      exact al_alloc hT hop hz
    · cases hc0
  case box t y =>
    obtain ⟨l, hl, e⟩ := als_inv hc0; cases e
    obtain ⟨y', ys, h1, h2, rfl⟩ := ods_cons_inv hl
    cases ods_nil_inv h2
    cases hv
    exact al_box hT hop h1
  case build t parts =>
    exfalso
    split at hc0
    · split at hc0
      · split at hc0
        · obtain ⟨l, hl, e⟩ := rds_inv hc0; cases e
        · cases hc0
      · cases hc0
    · split at hc0
      · split at hc0
        · obtain ⟨l, hl, e⟩ := rds_inv hc0; cases e
        · cases hc0
      · cases hc0
    · cases hc0
  case buildSlice t n parts =>
    split at hc0
    · rename_i e hd
      split at hc0
      · rename_i m z hm hz
        split at hc0
        · rename_i hall
          simp only [Bool.and_eq_true] at hall
          split at hc0
          · rename_i hio
            simp only [Bool.and_eq_true] at hio
            obtain ⟨l, hl, e0⟩ := als_inv hc0; cases e0
            have hv' : alRows n m id (evs τ xs) = some (x, v) := hv
            unfold alRows at hv'
            obtain ⟨g1, g2⟩ := cond_some hv'
            have g1 := Nat.eq_of_beq_eq_true g1
            rw [lenN_eq] at g1
            split at g2
            · rename_i l hrows
              cases g2
              have hps := Nat.eq_of_beq_eq_true hio.2
              have hzn := Nat.eq_of_beq_eq_true hall.1.2
              rw [lenN_eq] at hzn
              refine al_slice hT hop hd hm hz hall.1.1 hall.1.2 hall.2 hl (fits_rows m n _ fun p hp => ?_) ?_
              · have := inOrder_mem _ 0 hio.1 p hp
                simpa [hps] using this
              · have := fillI_rows m (evs τ xs) 0 [] (repeatCells z.cells n) l (by simp) (by rw [repeatCells_length, g1, hzn]) hrows parts.toList (by rw [g1]; simpa using hps) hio.1
                simpa using this
            · cases g2
          · split at hc0
            · rename_i hfit
              obtain ⟨l, hl, e0⟩ := als_inv hc0; cases e0
              have hv' : alBsl (repeatCells z.cells n) n m (placesRow m parts.toList) id (evs τ xs) = some (x, v) := hv
              unfold alBsl at hv'
              split at hv'
              · rename_i l hf
                cases hv'
                exact al_slice hT hop hd hm hz hall.1.1 hall.1.2 hall.2 hl hfit hf
              · cases hv'
            · cases hc0
        · cases hc0
      · cases hc0
    · cases hc0
  case insert t m k v =>
    exfalso
    split at hc0
    · split at hc0
      · obtain ⟨l, hl, e⟩ := efs_inv hc0; cases e
      · cases hc0
    · cases hc0
  case load t y =>
    exfalso
    split at hc0
    · split at hc0
      · obtain ⟨l, hl, e⟩ := rd1_inv hc0; cases e
      · cases hc0
    · split at hc0
      · obtain ⟨l, hl, e⟩ := rd1_inv hc0; cases e
      · cases hc0
  case store t x y =>
    exfalso
    split at hc0
    · obtain ⟨l, hl, e⟩ := efs_inv hc0; cases e
    · cases hc0
  case ready => cases hc0
  case waits => cases hc0
  case nilCheck x => obtain ⟨y, hy, e⟩ := rd1_inv hc0; cases e
  case binOp op t x y yt =>
    exfalso
    have eqNo : ∀ neg, eqOp P t neg x y ≠ some (.al al xs) := by
      intro neg h
      unfold eqOp at h
      split at h <;> try (obtain ⟨l, hl, e⟩ := rds_inv h; cases e; done)
      · split at h
        · split at h
          · obtain ⟨l, hl, e⟩ := rds_inv h; cases e
          · cases h
        · cases h
      · cases h
    split at hc0
    · exact eqNo _ hc0
    · exact eqNo _ hc0
    · split at hc0
      · obtain ⟨l, hl, e⟩ := rds_inv hc0; cases e
      · obtain ⟨l, hl, e⟩ := rds_inv hc0; cases e
      · cases hc0
  case unOp op t x =>
    exfalso
    split at hc0
    · obtain ⟨l, hl, e⟩ := rd1_inv hc0; cases e
    · obtain ⟨l, hl, e⟩ := rd1_inv hc0; cases e
    · cases hc0
  case convert s d y =>
    split at hc0
    · obtain ⟨l, hl, e⟩ := rd1_inv hc0; cases e
    · obtain ⟨l, hl, e⟩ := rd1_inv hc0; cases e
    · split at hc0
      · obtain ⟨l, hl, e⟩ := rd1_inv hc0; cases e
      · cases hc0
    · cases hc0
  case sliceToArrayPointer => cases hc0
  case makeInterface t x =>
    exfalso
    split at hc0
    · cases hc0
    · split at hc0
      · obtain ⟨l, hl, e⟩ := rd1_inv hc0; cases e
      · cases hc0
    · cases hc0
  case makeFunc fn first captured =>
    exfalso
    split at hc0
    · split at hc0
      · obtain ⟨l, hl, e⟩ := rds_inv hc0; cases e
      · cases hc0
    · cases hc0
  case makeMap t r =>
    cases r with
    | none => cases hc0; cases hv; exact al_map hT hop
    | some _ => cases hc0
  case makeChan => cases hc0
  case makeSlice t l c =>
    split at hc0
    · rename_i e hd
      split at hc0
      · rename_i n bs z hn hb hz
        split at hc0
        · rename_i hok
          simp only [Bool.and_eq_true] at hok
          obtain ⟨ys, hys, e0⟩ := als_inv hc0; cases e0
          exact al_makeSlice hT hop hd hn hb hz hok.1 (Nat.eq_of_beq_eq_true hok.2) hys hv
        · cases hc0
      · cases hc0
    · cases hc0
  case slice t x lo hi mx =>
    exfalso
    cases mx with
    | some _ => cases hc0
    | none =>
      simp only [] at hc0
      split at hc0
      · cases hc0
      · split at hc0
        · split at hc0 <;> cases hc0
        · cases hc0
        · cases hc0
  case fieldAddr t x f =>
    exfalso
    split at hc0
    · split at hc0
      · split at hc0
        · split at hc0
          · cases hc0
          · obtain ⟨l, hl, e⟩ := rd1_inv hc0; cases e
        · cases hc0
      · cases hc0
    · cases hc0
  case field t x f =>
    exfalso
    split at hc0
    · split at hc0
      · split at hc0
        · split at hc0
          · obtain ⟨l, hl, e⟩ := rd1_inv hc0; cases e
          · split at hc0
            · obtain ⟨l, hl, e⟩ := rd1_inv hc0; cases e
            · cases hc0
        · cases hc0
      · cases hc0
    · cases hc0
  case indexAddr t x ix =>
    exfalso
    split at hc0
    · split at hc0
      · split at hc0
        · obtain ⟨l, hl, e⟩ := rds_inv hc0; cases e
        · cases hc0
      · cases hc0
    · split at hc0
      · split at hc0
        · obtain ⟨l, hl, e⟩ := rds_inv hc0; cases e
        · cases hc0
      · cases hc0
    · cases hc0
  case index t x ix =>
    exfalso
    split at hc0
    · obtain ⟨l, hl, e⟩ := rds_inv hc0; cases e
    · split at hc0
      · split at hc0
        · obtain ⟨l, hl, e⟩ := rds_inv hc0; cases e
        · split at hc0
          · split at hc0
            · obtain ⟨l, hl, e⟩ := rds_inv hc0; cases e
            · cases hc0
          · cases hc0
      · cases hc0
    · cases hc0
  case lookup t x ix ok =>
    exfalso
    split at hc0
    · split at hc0
      · obtain ⟨l, hl, e⟩ := rds_inv hc0; cases e
      · cases hc0
    · cases hc0
  case mapUpdate t m k v =>
    exfalso
    split at hc0
    · split at hc0
      · obtain ⟨l, hl, e⟩ := efs_inv hc0; cases e
      · cases hc0
    · cases hc0
  case mapEntry t m k =>
    exfalso
    split at hc0
    · split at hc0
      · obtain ⟨l, hl, e⟩ := efs_inv hc0; cases e
      · cases hc0
    · cases hc0
  case entryStore t m s v =>
    exfalso
    obtain ⟨l, hl, e⟩ := efs_inv hc0; cases e
  case range => cases hc0
  case next => cases hc0
  case entry => cases hc0
  case typeAssert => cases hc0
  case extract x i => obtain ⟨y, hy, e⟩ := rd1_inv hc0; cases e
  case call c =>
    exfalso
    exact compCall_no_al hc0
  case go => cases hc0
  case defer => cases hc0
  case panic => cases hc0
  case send => cases hc0
  case recv => cases hc0
  case select => cases hc0
end
end Go.Fg
/- The ideal machine: how memory changes. -/
namespace Go.Fg

section
variable {P : Program} {ι : Emb} {τ : Fm} {a : Act} {H : Hp} {w : World}

def Emb.upd (ι : Emb) (b : Pos) (L : Loc) : Emb := ⟨fun c => if c = b then some L else ι c, ι.im⟩
theorem Emb.upd_eq (ι : Emb) (b : Pos) (L : Loc) : ι.upd b L b = some L := by unfold Emb.upd; exact if_pos rfl
theorem Emb.upd_ne (ι : Emb) {b c : Pos} (L : Loc) (h : c ≠ b) : ι.upd b L c = ι c := by unfold Emb.upd; exact if_neg h
theorem Emb.le_upd {ι : Emb} {b : Pos} (L : Loc) (h : ι b = none) : ι.le (ι.upd b L) := by
  refine ⟨fun c M hc => ?_, fun _ _ _ h => h⟩
  by_cases e : c = b
  · subst e; rw [h] at hc; cases hc
  · rw [Emb.upd_ne _ _ e]; exact hc

/-- One block is changed in place. -/
theorem Fin.set (hH : HR ι H w) {b : Pos} {x y : Blk} {L : Loc} {w' : World} (hb : H.get b = some x) (hx : x.live = true) (hL : ι b = some L) (hy : BR ι y L w')
    (hsz : w'.heap.size = w.heap.size) (hother : ∀ r, r ≠ L.r → w'.heap[r]? = w.heap[r]?) (ho : sameOut w w') : Fin ι H w ι (H.set b y) w' where
  ext := .refl _
  fresh c h1 h2 := absurd h1 h2
  hr := {
    pro := fun z r sh hz => (hH.pro z r sh hz).mono (.refl _) (hother r (hH.apart b x L z r sh hb hx hL hz))
    apart := fun c z M y' r sh hc hlive hM hz => by
      by_cases e : c = b
      · subst e
        rw [hL] at hM; cases hM
        exact hH.apart c x L y' r sh hb hx hL hz
      · rw [Hp.get_set_ne _ _ e] at hc
        exact hH.apart c z M y' r sh hc hlive hM hz
    blk := fun c z M hc hM => by
      by_cases e : c = b
      · subst e
        rw [Hp.get_set_eq] at hc
        cases hc
        rw [hL] at hM; cases hM
        exact hy
      · rw [Hp.get_set_ne _ _ e] at hc
        refine (hH.blk c z M hc hM).mono (.refl _) (hother M.r fun er => e ?_)
        exact hH.inj c b M L (by simp [hc]) (by simp [hb]) hM hL er
    inj := fun c₁ c₂ M₁ M₂ h1 h2 => hH.inj c₁ c₂ M₁ M₂ (by
        by_cases e : c₁ = b
        · subst e; simp [hb]
        · rwa [Hp.get_set_ne _ _ e] at h1) (by
        by_cases e : c₂ = b
        · subst e; simp [hb]
        · rwa [Hp.get_set_ne _ _ e] at h2)
    lt := fun c M hM => by rw [hsz]; exact hH.lt c M hM
    low := fun c hc => by
      rw [Hp.next_set]
      refine hH.low c ?_
      by_cases e : c = b
      · subst e; simp [hb]
      · rwa [Hp.get_set_ne _ _ e] at hc }
  up := Nat.le_refl _
  size := by omega
  frame r hr hc := hother r fun e => hc b L hL (by simp [hb]) e.symm
  cover c M hM hc hr := by
    refine ⟨c, M, hM, ?_, rfl⟩
    by_cases e : c = b
    · subst e; simp [hb]
    · rwa [Hp.get_set_ne _ _ e] at hc
  icov x r sh h _ := .inl ⟨x, sh, h⟩
  still c hc hn := Hp.get_set_ne _ _ fun e => by subst e; rw [hL] at hn; cases hn
  out := ho

/-- One block is new. -/
theorem Fin.alloc (hH : HR ι H w) {x : Blk} {L : Loc} {w' : World} {ob : Obj} (hfree : ι H.next = none) (hw : w'.heap = w.heap.push ob) (hL : L.r = w.heap.size) (hx : BR (ι.upd H.next L) x L w') (ho : sameOut w w') :
    Fin ι H w (ι.upd H.next L) (H.new x) w' := by
  have hget : ∀ r, r < w.heap.size → w'.heap[r]? = w.heap[r]? := fun r hr => by rw [hw, Array.getElem?_push_lt hr]; simp [hr]
  have hnext : H.get H.next = none := by
    cases h : H.get H.next with
    | none => rfl
    | some z => exact absurd (hH.low H.next (by simp [h])) (Nat.lt_irrefl _)
  exact {
    ext := Emb.le_upd L hfree
    fresh := fun c h1 h2 => by
      by_cases e : c = H.next
      · subst e; rw [Hp.next_new, Pos.num_nxt]; omega
      · rw [Emb.upd_ne _ _ e] at h2; exact absurd h1 h2
    hr := {
      pro := fun z r sh hz => (hH.pro z r sh hz).mono (Emb.le_upd L hfree).bare (hget r (hH.pro z r sh hz).lt)
      apart := fun c z M y' r sh hc hlive hM hz => by
        by_cases e : c = H.next
        · subst e
          rw [Emb.upd_eq] at hM; cases hM
          have := (hH.pro y' r sh hz).lt
          omega
        · rw [Hp.get_new_ne _ _ e] at hc
          rw [Emb.upd_ne _ _ e] at hM
          exact hH.apart c z M y' r sh hc hlive hM hz
      blk := fun c z M hc hM => by
        by_cases e : c = H.next
        · subst e
          rw [Hp.get_new_eq] at hc; cases hc
          rw [Emb.upd_eq] at hM; cases hM
          exact hx
        · rw [Hp.get_new_ne _ _ e] at hc
          rw [Emb.upd_ne _ _ e] at hM
          exact (hH.blk c z M hc hM).mono (Emb.le_upd L hfree) (hget _ (hH.lt c M hM))
      inj := fun c₁ c₂ M₁ M₂ h1 h2 m1 m2 hr => by
        by_cases e1 : c₁ = H.next
        · by_cases e2 : c₂ = H.next
          · rw [e1, e2]
          · exfalso
            subst e1
            rw [Emb.upd_eq] at m1; cases m1
            rw [Emb.upd_ne _ _ e2] at m2
            have := hH.lt c₂ M₂ m2
            omega
        · by_cases e2 : c₂ = H.next
          · exfalso
            subst e2
            rw [Emb.upd_eq] at m2; cases m2
            rw [Emb.upd_ne _ _ e1] at m1
            have := hH.lt c₁ M₁ m1
            omega
          · rw [Hp.get_new_ne _ _ e1] at h1
            rw [Hp.get_new_ne _ _ e2] at h2
            rw [Emb.upd_ne _ _ e1] at m1
            rw [Emb.upd_ne _ _ e2] at m2
            exact hH.inj c₁ c₂ M₁ M₂ h1 h2 m1 m2 hr
      lt := fun c M hM => by
        rw [hw, Array.size_push]
        by_cases e : c = H.next
        · subst e; rw [Emb.upd_eq] at hM; cases hM; omega
        · rw [Emb.upd_ne _ _ e] at hM; have := hH.lt c M hM; omega
      low := fun c hc => by
        rw [Hp.next_new, Pos.num_nxt]
        by_cases e : c = H.next
        · subst e; omega
        · rw [Hp.get_new_ne _ _ e] at hc; have := hH.low c hc; omega }
    up := by rw [Hp.next_new, Pos.num_nxt]; omega
    size := by rw [hw, Array.size_push]; omega
    frame := fun r hr _ => hget r hr
    cover := fun c M hM hc hr => by
      by_cases e : c = H.next
      · subst e; rw [Emb.upd_eq] at hM; cases hM; omega
      · rw [Emb.upd_ne _ _ e] at hM; rw [Hp.get_new_ne _ _ e] at hc; exact ⟨c, M, hM, hc, rfl⟩
    icov := fun x r sh h _ => .inl ⟨x, sh, h⟩
    still := fun c hc hn => Hp.get_new_ne _ _ fun e => by subst e; omega
    out := ho }

/-- A dead block may be forgotten. -/
theorem Fin.kill (hH : HR ι H w) {b : Pos} {L : Loc} (hL : ι b = some L) : Fin ι H w ι (H.kill b) w := by
  have keep : ∀ c, (H.kill b).get c ≠ none → c ≠ b ∧ H.get c ≠ none := fun c hc => by
    by_cases e : c = b
    · subst e; rw [Hp.get_kill_eq] at hc; exact absurd rfl hc
    · rw [Hp.get_kill_ne _ e] at hc; exact ⟨e, hc⟩
  exact {
    ext := .refl _
    fresh := fun c h1 h2 => absurd h1 h2
    hr := {
      pro := hH.pro
      apart := fun c z M y' r sh hc hlive hM hz => by
        have := keep c (by simp [hc])
        rw [Hp.get_kill_ne _ this.1] at hc
        exact hH.apart c z M y' r sh hc hlive hM hz
      blk := fun c z M hc hM => by
        have := keep c (by simp [hc])
        rw [Hp.get_kill_ne _ this.1] at hc
        exact hH.blk c z M hc hM
      inj := fun c₁ c₂ M₁ M₂ h1 h2 => hH.inj c₁ c₂ M₁ M₂ (keep c₁ h1).2 (keep c₂ h2).2
      lt := hH.lt
      low := fun c hc => hH.low c (keep c hc).2 }
    up := Nat.le_refl _
    size := Nat.le_refl _
    frame := fun _ _ _ => rfl
    cover := fun c M hM hc _ => ⟨c, M, hM, (keep c hc).2, rfl⟩
    icov := fun x r sh h _ => .inl ⟨x, sh, h⟩
    still := fun c hc hn => Hp.get_kill_ne _ fun e => by subst e; rw [hL] at hn; cases hn
    out := .refl _ }

/-- A block grows where it lies: its elder name is dead. -/
theorem Fin.grow (hH : HR ι H w) {b : Pos} {x y : Blk} {L M : Loc} {w' : World} (hfree : ι H.next = none) (hb : H.get b = some x) (hx : x.live = true) (hL : ι b = some L) (hM : M.r = L.r) (hy : BR (ι.upd H.next M) y M w')
    (hsz : w'.heap.size = w.heap.size) (hother : ∀ r, r ≠ L.r → w'.heap[r]? = w.heap[r]?) (ho : sameOut w w') : Fin ι H w (ι.upd H.next M) ((H.kill b).new y) w' := by
  have hbn : b ≠ H.next := fun e => by subst e; rw [hfree] at hL; cases hL
  have nx : (H.kill b).next = H.next := rfl
  have keep : ∀ c, ((H.kill b).new y).get c ≠ none → c = H.next ∨ (c ≠ H.next ∧ c ≠ b ∧ H.get c ≠ none ∧ ((H.kill b).new y).get c = H.get c) := fun c hc => by
    by_cases e : c = H.next
    · exact .inl e
    · by_cases e2 : c = b
      · subst e2; rw [Hp.get_new_ne _ _ (by rw [nx]; exact e), Hp.get_kill_eq] at hc; exact absurd rfl hc
      · have h3 : ((H.kill b).new y).get c = H.get c := by rw [Hp.get_new_ne _ _ (by rw [nx]; exact e), Hp.get_kill_ne _ e2]
        exact .inr ⟨e, e2, by rwa [h3] at hc, h3⟩
  have hlt := hH.lt b L hL
  exact {
    ext := Emb.le_upd M hfree
    fresh := fun c h1 h2 => by
      by_cases e : c = H.next
      · subst e; rw [Hp.next_new, Pos.num_nxt, nx]; omega
      · rw [Emb.upd_ne _ _ e] at h2; exact absurd h1 h2
    hr := {
      pro := fun z r sh hz => (hH.pro z r sh hz).mono (Emb.le_upd M hfree).bare (hother r (hH.apart b x L z r sh hb hx hL hz))
      apart := fun c z N y' r sh hc hlive hN hz => by
        rcases keep c (by simp [hc]) with e | ⟨e, e2, _, h3⟩
        · subst e
          rw [Emb.upd_eq] at hN; cases hN
          rw [hM]
          exact hH.apart b x L y' r sh hb hx hL hz
        · rw [h3] at hc
          rw [Emb.upd_ne _ _ e] at hN
          exact hH.apart c z N y' r sh hc hlive hN hz
      blk := fun c z N hc hN => by
        rcases keep c (by simp [hc]) with e | ⟨e, e2, _, h3⟩
        · subst e
          have : ((H.kill b).new y).get (H.kill b).next = some y := Hp.get_new_eq _ _
          rw [nx] at this
          rw [this] at hc; cases hc
          rw [Emb.upd_eq] at hN; cases hN
          exact hy
        · rw [h3] at hc
          rw [Emb.upd_ne _ _ e] at hN
          refine (hH.blk c z N hc hN).mono (Emb.le_upd M hfree) (hother _ fun er => e2 ?_)
          exact hH.inj c b N L (by simp [hc]) (by simp [hb]) hN hL er
      inj := fun c₁ c₂ M₁ M₂ h1 h2 m1 m2 hr => by
        rcases keep c₁ h1 with e1 | ⟨e1, f1, g1, _⟩
        · rcases keep c₂ h2 with e2 | ⟨e2, f2, g2, _⟩
          · rw [e1, e2]
          · exfalso
            subst e1
            rw [Emb.upd_eq] at m1; cases m1
            rw [Emb.upd_ne _ _ e2] at m2
            exact f2 (hH.inj c₂ b M₂ L g2 (by simp [hb]) m2 hL (by omega))
        · rcases keep c₂ h2 with e2 | ⟨e2, f2, g2, _⟩
          · exfalso
            subst e2
            rw [Emb.upd_eq] at m2; cases m2
            rw [Emb.upd_ne _ _ e1] at m1
            exact f1 (hH.inj c₁ b M₁ L g1 (by simp [hb]) m1 hL (by omega))
          · rw [Emb.upd_ne _ _ e1] at m1
            rw [Emb.upd_ne _ _ e2] at m2
            exact hH.inj c₁ c₂ M₁ M₂ g1 g2 m1 m2 hr
      lt := fun c N hN => by
        rw [hsz]
        by_cases e : c = H.next
        · subst e; rw [Emb.upd_eq] at hN; cases hN; omega
        · rw [Emb.upd_ne _ _ e] at hN; exact hH.lt c N hN
      low := fun c hc => by
        rw [Hp.next_new, Pos.num_nxt, nx]
        rcases keep c hc with e | ⟨_, _, g, _⟩
        · subst e; omega
        · have := hH.low c g; omega }
    up := by rw [Hp.next_new, Pos.num_nxt, nx]; omega
    size := by omega
    frame := fun r hr hc => hother r fun e => hc b L hL (by simp [hb]) e.symm
    cover := fun c N hN hc hr => by
      rcases keep c hc with e | ⟨e, _, g, _⟩
      · subst e; rw [Emb.upd_eq] at hN; cases hN; exact ⟨b, L, hL, by simp [hb], hM.symm⟩
      · rw [Emb.upd_ne _ _ e] at hN; exact ⟨c, N, hN, g, rfl⟩
    icov := fun x r sh h _ => .inl ⟨x, sh, h⟩
    still := fun c hc hn => by
      have e1 : c ≠ H.next := fun e => by subst e; omega
      have e2 : c ≠ b := fun e => by subst e; rw [hL] at hn; cases hn
      rw [Hp.get_new_ne _ _ (by rw [nx]; exact e1), Hp.get_kill_ne _ e2]
    out := ho }

/-- Cells are written. -/
theorem setCells_heap (b : Nat) {e : TypeId} {fr : Nat × Nat} : ∀ (vs : List Value) (o : Nat) (w : World) (c : Array Value), w.heap[b]? = some (.cells c e fr) → o + vs.length ≤ c.size →
    ∃ c', (w.setCells b o vs).heap[b]? = some (.cells c' e fr) ∧ c'.size = c.size ∧ (∀ i : Nat, c'[i]? = if o ≤ i ∧ i < o + vs.length then vs[i - o]? else c[i]?) ∧
      (∀ r, r ≠ b → (w.setCells b o vs).heap[r]? = w.heap[r]?) ∧ (w.setCells b o vs).heap.size = w.heap.size ∧ sameOut w (w.setCells b o vs)
  | [], o, w, c, h, hl => ⟨c, h, rfl, fun i => by simp; omega, fun _ _ => rfl, rfl, .refl _⟩
  | v :: vs, o, w, c, h, hl => by
    have e0 : w.setCell ⟨b, o, none⟩ v = w.setRow b (c.setIfInBounds o v) := setCell_eq_setRow w b o c e fr v h
    have h1 : (w.setCell ⟨b, o, none⟩ v).heap[b]? = some (.cells (c.setIfInBounds o v) e fr) := by rw [e0]; exact setRow_heap w b c _ e fr h
    simp only [List.length_cons] at hl
    obtain ⟨c', g1, g2, g3, g4, g5, g6⟩ := setCells_heap b vs (o + 1) (w.setCell ⟨b, o, none⟩ v) _ h1 (by simp; omega)
    refine ⟨c', g1, by rw [g2]; simp, fun i => ?_, fun r hr => ?_, ?_, ?_⟩
    · rw [g3 i]
      simp only [List.length_cons]
      by_cases c1 : i = o
      · subst c1
        rw [if_neg (by omega), if_pos (by omega)]
        have : i < c.size := by omega
        simp [this]
      · by_cases c2 : o + 1 ≤ i ∧ i < o + 1 + vs.length
        · rw [if_pos c2, if_pos (by omega), show i - o = (i - (o + 1)) + 1 by omega]; simp
        · rw [if_neg c2, if_neg (by omega), Array.getElem?_setIfInBounds_ne (by omega)]
    · show ((w.setCell ⟨b, o, none⟩ v).setCells b (o + 1) vs).heap[r]? = _
      rw [g4 r hr, e0, setRow_other _ _ _ _ hr]
    · show ((w.setCell ⟨b, o, none⟩ v).setCells b (o + 1) vs).heap.size = _
      rw [g5, e0, setRow_size]
    · have : sameOut w (w.setCell ⟨b, o, none⟩ v) := ⟨rfl, rfl, rfl, fun a => by simp⟩
      exact this.trans g6

theorem atom_one {x : IV} {y : Value} (h : VR ι x y) (ha : isAtomV x = true) : y.oneCell' = true := by
  cases h <;> first | rfl | (cases ha; done)

theorem write_inv {b : Pos} {o n : Nat} {vs : List IV} {H' : Hp} (h : H.write b o n vs = some H') (hn : vs.length = n) : ∃ m l, H.get b = some (.cells m l) ∧ o + n ≤ m ∧ (l.length = m → H' = H.set b (.cells m (layAt o vs l))) := by
  unfold Hp.write at h
  split at h
  · rename_i m l e
    obtain ⟨h1, h2⟩ := cond_some h
    have h1 := Nat.le_of_ble_eq_true h1
    refine ⟨m, l, cellsW_inv e, h1, fun hl => ?_⟩
    cases h2
    by_cases hm : n = m
    · have ho : o = 0 := by omega
      subst hm ho
      rw [Nat.beq_refl]
      show H.set b (.cells n vs) = H.set b (.cells n (lay vs l))
      rw [lay_all _ _ (by omega), List.drop_eq_nil_of_le (by omega), List.append_nil]
    · rw [beq_no hm]; rfl
  · cases h

/-- Writing cells of one block. -/
theorem write_sound (hH : HR ι H w) {b : Pos} {o n : Nat} {vs : List IV} {vs' : List Value} {H' : Hp} {L : Loc} (h : H.write b o n vs = some H') (hL : ι b = some L) (hv : VRs ι vs vs') (hn : vs.length = n) (ha : ∀ v ∈ vs', v.oneCell' = true) :
    ∃ w', (storeCells ⟨L.r, L.sh + o, none⟩ vs').run P w = .ok () w' ∧ Fin ι H w ι H' w' := by
  obtain ⟨m, l, h1, h2, h3⟩ := write_inv h hn
  obtain ⟨g1, g2, c, e, lo, hi, g3, g4, g5, g6⟩ := hH.blk b _ L h1 hL
  have hlen : vs'.length = n := by rw [hv.length, hn]
  rw [h3 g1]
  obtain ⟨c', k1, k2, k3, k4, k5, k6⟩ := setCells_heap L.r vs' (L.sh + o) w c g3 (by omega)
  have hrun := run_storeCells_cells (P := P) L.r (L.sh + o) vs' 0 w (fun j hj => by
      have : L.sh + o + j < c.size := by omega
      simp [World.cell?, g3, this]) (fun j hj => by
      have := g5 (L.sh + o + 0 + j) (by omega)
      simp [World.frozen?, g3]
      intro h; simp at this; omega) ha
  refine ⟨_, hrun, ?_⟩
  rw [Nat.add_zero]
  refine Fin.set hH h1 rfl hL ⟨by rw [length_layAt]; exact g1, g2, c', e, lo, hi, k1, by omega, g5, fun i v hi' => ?_⟩ k5 k4 k6
  rw [get_layAt _ _ _ _ (by omega)] at hi'
  rw [k3 (L.sh + i)]
  by_cases cc : o ≤ i ∧ i < o + vs.length
  · rw [if_pos cc] at hi'
    rw [if_pos (by omega), show L.sh + i - (L.sh + o) = i - o by omega]
    exact hv.get hi'
  · rw [if_neg cc] at hi'
    rw [if_neg (by omega)]
    exact g6 i v hi'
end
end Go.Fg
/- The ideal machine: operations that change memory. -/
namespace Go.Fg

section
variable {P : Program} {ι : Emb} {τ : Fm} {a : Act} {H : Hp} {w : World}

/-- An operation that changes memory. -/
def EfOk (P : Program) (ι : Emb) (H : Hp) (w : World) (o : Oper) (a : Act) (v : IV) (H' : Hp) : Prop :=
  ∃ v' w' ι', ((execOp a.eval o).run P w = .ok (.value v') w' ∨ ((execOp a.eval o).run P w = .ok .skip w' ∧ v' = undef)) ∧ VR ι' v v' ∧ Fin ι H w ι' H' w'

/-- The first cells of a slice. -/
theorem first_sound (hH : HR ι H w) {z n : Nat} {x : IV} {x' : Value} {l : List IV} (h : firstI H z n x = some l) (hx : VR ι x x') : ∃ l' : List Value, VRs ι l l' ∧ l.length = n * z ∧ (Builtin.firstCells z n x').run P w = .ok l'.toArray w := by
  unfold firstI at h
  split at h
  · rename_i b o len c z'
    obtain ⟨h1, h2⟩ := cond_some h
    simp only [Bool.and_eq_true] at h1
    have hz := Nat.eq_of_beq_eq_true h1.1
    subst hz
    cases hn : Nat.beq n 0 with
    | true =>
      rw [hn] at h2
      have := Nat.eq_of_beq_eq_true hn
      subst this
      cases h2
      refine ⟨[], .nil, by simp, ?_⟩
      rcases vr_sl hx with ⟨L, c', _, _, _, _, rfl⟩ | ⟨ad, _, _, rfl⟩ <;> simp [Builtin.firstCells, loadCells, loadCellsFrom]
    | false =>
      rw [hn] at h2
      rcases vr_sl hx with ⟨L, c', hL, _, _, _, rfl⟩ | ⟨ad, h0, _, rfl⟩
      · obtain ⟨l', g1, g2, g3⟩ := read_sound (P := P) hH h2 hL
        exact ⟨l', g1, g2, by simpa [Builtin.firstCells] using g3⟩
      · have := Nat.le_of_ble_eq_true h1.2
        subst h0
        have : n = 0 := by omega
        subst this
        cases hn
  · obtain ⟨h1, h2⟩ := cond_some h
    cases h2
    have := Nat.eq_of_beq_eq_true h1
    subst this
    have := vr_sn hx
    subst this
    exact ⟨[], .nil, by simp, by simp [Builtin.firstCells]⟩
  · rename_i s
    obtain ⟨h1, h2⟩ := cond_some h
    simp only [Bool.and_eq_true] at h1
    have hz := Nat.eq_of_beq_eq_true h1.1
    have hn := Nat.le_of_ble_eq_true h1.2
    subst hz
    cases h2
    obtain ⟨bs, hb, rfl⟩ := vr_s hx
    subst hb
    rw [List.length_map, Array.length_toList] at hn
    refine ⟨(bs.data.toList.take n).map fun b => Value.int .u8 (b.toNat : Int), ?_, ?_, ?_⟩
    · rw [takeN_eq, List.map_map, ← List.map_take]
      generalize bs.data.toList.take n = q
      induction q with
      | nil => exact .nil
      | cons x q ih => exact .cons _ _ _ _ (.i _ _) ih
    · rw [takeN_eq, List.length_take, List.length_map, List.length_map, Array.length_toList]; omega
    · simp only [Builtin.firstCells, Sem.run_pure]
      congr 1
      apply Array.ext'
      simp [ByteArray.data_extract, List.extract_eq_take_drop]
  · rename_i es
    obtain ⟨h1, h2⟩ := cond_some h
    cases h2
    simp only [Bool.and_eq_true] at h1
    have hn := Nat.le_of_ble_eq_true h1.1
    have hz : ∀ e ∈ es, e.length = z := fun e he => Nat.eq_of_beq_eq_true (List.all_eq_true.1 h1.2 e he)
    have hlen : (es.take n).flatten.length = n * z := by
      rw [flatten_len (fun e he => hz e (List.mem_of_mem_take he)), List.length_take, Nat.min_eq_left hn]
    rcases vr_sli hx with ⟨l0, rr, sh, d, z', c, q1, q2, q3, q4, rfl⟩ | ⟨rfl, ad, c, rfl⟩ | ⟨rfl, rfl⟩
    · obtain ⟨l', p1, p2⟩ := im_read (P := P) hH q1 (List.IsPrefix.trans (flatten_take_prefix es n) q2)
      rw [hlen] at p2
      exact ⟨l', p1, hlen, by simpa [Builtin.firstCells] using p2⟩
    · have : n = 0 := by simpa using hn
      subst this
      exact ⟨[], .nil, by simp, by simp [Builtin.firstCells, loadCells, loadCellsFrom]⟩
    · have : n = 0 := by simpa using hn
      subst this
      exact ⟨[], .nil, by simp, by simp [Builtin.firstCells]⟩
  · cases h

theorem len_sound {x : IV} {x' : Value} {n : Nat} (h : lenI x = some n) (hx : VR ι x x') : (Builtin.lenOf x').run P w = .ok n w := by
  unfold lenI at h
  split at h
  · cases h
    rcases vr_sl hx with ⟨L, c', _, _, _, _, rfl⟩ | ⟨ad, h0, _, rfl⟩
    · simp [Builtin.lenOf]
    · subst h0; simp [Builtin.lenOf]
  · cases h; have := vr_sn hx; subst this; simp [Builtin.lenOf]
  · cases h
    obtain ⟨bs, hb, rfl⟩ := vr_s hx
    subst hb
    simp [Builtin.lenOf]
  · cases h
    rcases vr_sli hx with ⟨l0, rr, sh, d, z', c, q1, q2, q3, q4, rfl⟩ | ⟨rfl, ad, c, rfl⟩ | ⟨rfl, rfl⟩ <;> simp [Builtin.lenOf]
  · cases h

/-- Every cell of memory is one cell: what is read from it can be written. -/
theorem atoms_of_read {l : List IV} {l' : List Value} (hv : VRs ι l l') (ha : l.all isAtomV = true) : ∀ v ∈ l', v.oneCell' = true := by
  intro v hv'
  obtain ⟨i, hi, rfl⟩ := List.getElem_of_mem hv'
  have hlt : i < l.length := by rw [← hv.length]; exact hi
  obtain ⟨v', h1, h2⟩ := hv.get (List.getElem?_eq_getElem hlt)
  rw [List.getElem?_eq_getElem hi] at h1
  cases h1
  exact atom_one h2 (List.all_eq_true.1 ha _ (List.getElem_mem hlt))

variable (hT : TR ι τ a) (hH : HR ι H w)

theorem ef_store (hT : TR ι τ a) (hH : HR ι H w) {o : Oper} {t : TypeId} {x y : Operand} {n : Nat} {ys : List Od} {v : IV} {H' : Hp} (ho : o.op = .store t x y) (hn : sz P t = some n) (hys : ods [x, y] = some ys) (hv : efSt n H (evs τ ys) = some (v, H')) : EfOk P ι H w o a v H' := by
  obtain ⟨u, u', e, h1, h2⟩ := pair_inv hT hys
  rw [e] at hv
  unfold efSt at hv
  split at hv
  · rename_i b ofs y0 e1
    injection e1 with e1 e2
    injection e2 with e2 _
    subst e1 e2
    obtain ⟨g1, g2⟩ := cond_some hv
    have g3 : Nat.beq (lenN u'.cells) n = true ∧ allAtoms u'.cells = true := by
      cases q : Nat.beq (lenN u'.cells) n with
      | false => rw [q] at g1; cases g1
      | true => rw [q] at g1; exact ⟨rfl, g1⟩
    have hlen := Nat.eq_of_beq_eq_true g3.1
    rw [lenN_eq] at hlen
    obtain ⟨L, hL, x1⟩ := vr_p h1
    split at g2
    · rename_i h' hw
      cases g2
      have hc := vr_cells h2
      rw [allAtoms_eq] at g3
      obtain ⟨w', k1, k2⟩ := write_sound (P := P) hH hw hL hc hlen (atoms_of_read hc g3.2)
      refine ⟨undef, w', ι, .inr ⟨?_, rfl⟩, vr_undef ι, k2⟩
      have hsz : (a.eval y).cells.size = n := by rw [← hlen, ← hc.length]; simp
      simp [execOp, ho, x1, Instr.storeAt, Instr.sureAddr, storeVar, run_sz hn, hsz, k1]
    · cases g2
  · cases hv

/-- The entries after an update. -/
def updEs (res' : Option (Nat × Value)) (es' : Array MapEntry) (k' v' : Value) (c : Nat) : Array MapEntry :=
  match res' with
  | some (i, _) => es'.modify i fun e => { e with key := k', val := v' }
  | none => es'.push { key := k', val := v', born := c }
def updC (res' : Option (Nat × Value)) (c : Nat) : Nat :=
  match res' with
  | some _ => c
  | none => c + 1

theorem mapUpdate_run (hT : TR ι τ a) (hH : HR ι H w) {t kt e : TypeId} {r : Nat} {k' v' : Value} {es' : Array MapEntry} {c : Nat} (hd : P.underlying t = some (.map kt e)) (hm : w.heap[r]? = some (.map es' c)) (hck : (Instr.checkKey false 10000 kt k').run P w = .ok () w)
    {res' : Option (Nat × Value)} (hf : (Instr.findKey kt k' es'.toList).run P w = .ok res' w) (hkeep : ∀ i v, res' = some (i, v) → ∃ e0, es'[i]? = some e0 ∧ Instr.sameBits 10000 e0.key k' = true) :
    (Instr.mapUpdate t (.map (some r)) k' v').run P w = .ok () { w with heap := w.heap.setIfInBounds r (.map (updEs res' es' k' v' c) (updC res' c)) } := by
  cases res' with
  | none => simp [updEs, updC, Instr.mapUpdate, run_underlying hd, run_getObj_map hm, hck, hf, setObj, Sem.run, hm]
  | some q =>
    obtain ⟨i, v⟩ := q
    obtain ⟨e0, h1, h2⟩ := hkeep i v rfl
    simp [updEs, updC, Instr.mapUpdate, run_underlying hd, run_getObj_map hm, hck, hf, setObj, Sem.run, hm, h1, Instr.keyThatStays, h2]

/-- Map blocks. -/
theorem map_set {r : Pos} {L : Loc} {es es2 : List IEnt} {c c2 : Nat} {es2' : Array MapEntry} (hH : HR ι H w) (h : mapW (H.get r) = some (es, c)) (hL : ι r = some L) (h2 : ERs ι es2 es2'.toList) :
    Fin ι H w ι (H.set r (.map es2 c2)) { w with heap := w.heap.setIfInBounds L.r (.map es2' c2) } := by
  have hlt := hH.lt r L hL
  refine Fin.set hH (mapW_inv h) rfl hL ⟨es2', by simp [hlt], h2⟩ (by simp) (fun q hq => by simp [Array.getElem?_setIfInBounds_ne (Ne.symm hq)]) ⟨rfl, rfl, rfl, fun a => ?_⟩
  obtain ⟨es', f1, _⟩ := hH.blk r _ L (mapW_inv h) hL
  unfold World.frozen?
  by_cases e : a.block = L.r
  · rw [e, f1]
    simp [hlt]
  · simp [Array.getElem?_setIfInBounds_ne (Ne.symm e)]

theorem modI_nil (f : IEnt → IEnt) (n : Nat) : modI f [] n = [] := rfl
theorem modI_zero (f : IEnt → IEnt) (e : IEnt) (es : List IEnt) : modI f (e :: es) 0 = f e :: es := rfl
theorem modI_succ (f : IEnt → IEnt) (e : IEnt) (es : List IEnt) (n : Nat) : modI f (e :: es) (n + 1) = e :: modI f es n := rfl

theorem ers_mod {v : IV} {f' : MapEntry → MapEntry} : ∀ {es : List IEnt} {es' : List MapEntry} (n : Nat), ERs ι es es' →
    (∀ (e : IEnt) (e' : MapEntry), es[n]? = some e → es'[n]? = some e' → VR ι e.key (f' e').key ∧ VR ι v (f' e').val ∧ e.born = (f' e').born) → ERs ι (modI (setVal v) es n) (es'.modify n f')
  | [], _, n, h, _ => by cases h; rw [modI_nil]; simp; exact .nil
  | e :: es, _, 0, h, hk => by
    cases h
    rename_i e' es' h1 h2 h3 ht
    obtain ⟨k1, k2, k3⟩ := hk e e' (by simp) (by simp)
    rw [modI_zero]
    simp
    exact .cons _ _ _ _ k1 k2 k3 ht
  | e :: es, _, n + 1, h, hk => by
    cases h
    rename_i e' es' h1 h2 h3 ht
    rw [modI_succ]
    simp
    exact .cons _ _ _ _ h1 h2 h3 (ers_mod n ht (fun x x' e1 e2 => hk x x' (by simpa using e1) (by simpa using e2)))

theorem ers_push {x : IEnt} {x' : MapEntry} (hk : VR ι x.key x'.key) (hv : VR ι x.val x'.val) (hb : x.born = x'.born) : ∀ {es : List IEnt} {es' : List MapEntry}, ERs ι es es' → ERs ι (es ++ [x]) (es' ++ [x'])
  | [], _, h => by cases h; exact .cons _ _ _ _ hk hv hb .nil
  | e :: es, _, h => by
    cases h
    rename_i e' es' h1 h2 h3 ht
    exact .cons _ _ _ _ h1 h2 h3 (ers_push hk hv hb ht)

theorem bytes_eq {a b : ByteArray} (h : true = (a.toList == b.toList)) : a = b := by
  have h : a.toList = b.toList := by simpa using h.symm
  cases a; cases b
  simp only [ByteArray.toList_eq] at h
  congr 1
  exact Array.ext' h

/-- Keys that are the same are so bit by bit. -/
theorem sameBits_of {ag : Bool} {ks : List Nat} {x y : IV} {x' y' : Value} (h : eqKey ag ks x y = some true) (hx : VR ι x x') (hy : VR ι y y') : Instr.sameBits 10000 y' x' = true := by
  have cell : ∀ (n : Nat) {kd : Nat} {x y : IV} {x' y' : Value}, eqCell kd x y = some true → VR ι x x' → VR ι y y' → Instr.sameBits n y' x' = true := by
    intro n kd x y x' y' h hx hy
    rcases eqCell_sound h hx hy with ⟨_, k, a, b, rfl, rfl, hr⟩ | ⟨_, a, b, rfl, rfl, hr⟩ | ⟨_, a, b, rfl, rfl, hr⟩
    · have : a = b := by simpa using hr.symm
      subst this; cases n <;> simp [Instr.sameBits]
    · have : a = b := by simpa using hr.symm
      subst this; cases n <;> simp [Instr.sameBits]
    · have : a = b := bytes_eq hr
      subst this; cases n <;> simp [Instr.sameBits, beq_toListBytes]
  rcases eqKey_inv h hx hy with ⟨_, l, m, xs, ys, h1, h2, rfl, rfl, h5⟩ | ⟨_, _, kd, _, h5⟩
  · have key : ∀ (ks : List Nat) (l m : List IV) (xs ys : List Value), VRs ι l xs → VRs ι m ys → eqCells ks l m = some true → xs.length = ys.length ∧ ((ys.zip xs).all fun (p : Value × Value) => Instr.sameBits 9999 p.1 p.2) = true := by
      intro ks
      induction ks with
      | nil =>
        intro l m xs ys g1 g2 g3
        obtain ⟨q1, q2⟩ := eqCells_length g3
        have e1 := List.eq_nil_of_length_eq_zero q1
        have e2 := List.eq_nil_of_length_eq_zero q2
        subst e1 e2
        cases g1; cases g2; exact ⟨rfl, rfl⟩
      | cons k ks ih =>
        intro l m xs ys g1 g2 g3
        obtain ⟨q1, q2⟩ := eqCells_length g3
        cases l with
        | nil => simp at q1
        | cons u l => cases m with
          | nil => simp at q2
          | cons v m =>
            obtain ⟨p, q, a1, a2, a3⟩ := andO_some (show andO (eqCell k u v) (eqCells ks l m) = some true from g3)
            have hpq : p = true ∧ q = true := by simpa using a3.symm
            cases g1; cases g2
            rename_i y2 ys2 b1 b2 y1 ys1 c1 c2
            obtain ⟨f1, f2⟩ := ih _ _ _ _ b2 c2 (by rw [a2, hpq.2])
            refine ⟨by simp [f1], ?_⟩
            simp only [List.zip_cons_cons, List.all_cons, Bool.and_eq_true]
            exact ⟨cell 9999 (by rw [a1, hpq.1]) b1 c1, f2⟩
    obtain ⟨f1, f2⟩ := key ks l m xs.toList ys.toList h1 h2 h5
    simp only [Array.length_toList] at f1
    show (ys.size == xs.size && (ys.toList.zip xs.toList).all fun (x, y) => Instr.sameBits 9999 x y) = true
    rw [Bool.and_eq_true]
    exact ⟨by simp [f1], f2⟩
  · exact cell 10000 h5 hx hy

theorem findI_eq {ag : Bool} {ks : List Nat} {k : IV} : ∀ {es : List IEnt} {n i : Nat} {e : IEnt}, findI ag ks k es n = some (some (i, e)) → eqKey ag ks k e.key = some true
  | [], n, i, e, h => by cases h
  | x :: es, n, i, e, h => by
    rw [findI_cons] at h
    split at h
    · rename_i b hb
      cases b with
      | true => simp at h; obtain ⟨_, rfl⟩ := h; exact hb
      | false => simp at h; exact findI_eq h
    · cases h

theorem vr_key_swap {ag : Bool} {ks : List Nat} {x y : IV} {x' y' : Value} (h : eqKey ag ks x y = some true) (hx : VR ι x x') (hy : VR ι y y') : VR ι y x' := by
  have cell : ∀ {kd : Nat} {x y : IV} {x' y' : Value}, eqCell kd x y = some true → VR ι x x' → VR ι y y' → VR ι y x' := by
    intro kd x y x' y' h hx hy
    rcases eqCell_sound h hx hy with ⟨_, k, a, b, rfl, rfl, hr⟩ | ⟨_, a, b, rfl, rfl, hr⟩ | ⟨_, a, b, rfl, rfl, hr⟩
    · have : a = b := by simpa using hr.symm
      subst this; exact hy
    · have : a = b := by simpa using hr.symm
      subst this; exact hy
    · have : a = b := bytes_eq hr
      subst this; exact hy
  rcases eqKey_inv h hx hy with ⟨_, l, m, xs, ys, h1, h2, rfl, rfl, h5⟩ | ⟨_, _, kd, _, h5⟩
  · have key : ∀ (ks : List Nat) (l m : List IV) (xs ys : List Value), VRs ι l xs → VRs ι m ys → eqCells ks l m = some true → VRs ι m xs := by
      intro ks
      induction ks with
      | nil =>
        intro l m xs ys g1 g2 g3
        obtain ⟨q1, q2⟩ := eqCells_length g3
        have e1 := List.eq_nil_of_length_eq_zero q1
        have e2 := List.eq_nil_of_length_eq_zero q2
        subst e1 e2
        cases g1; exact .nil
      | cons k ks ih =>
        intro l m xs ys g1 g2 g3
        obtain ⟨q1, q2⟩ := eqCells_length g3
        cases l with
        | nil => simp at q1
        | cons u l => cases m with
          | nil => simp at q2
          | cons v m =>
            obtain ⟨p, q, a1, a2, a3⟩ := andO_some (show andO (eqCell k u v) (eqCells ks l m) = some true from g3)
            have hpq : p = true ∧ q = true := by simpa using a3.symm
            cases g1; cases g2
            rename_i y2 ys2 b1 b2 y1 ys1 c1 c2
            exact .cons _ _ _ _ (cell (by rw [a1, hpq.1]) b1 c1) (ih _ _ _ _ b2 c2 (by rw [a2, hpq.2]))
    -- y is the second aggregate
    unfold eqKey at h
    split at h
    · cases hy with
      | agg m' ys' hm' =>
        cases hx with
        | agg l' xs' hl' =>
          cases ag with
          | false => cases h
          | true => exact .agg _ _ (key ks _ _ _ _ hl' hm' h)
    · exfalso
      cases ag with
      | true => cases h
      | false => simp_all
  · exact cell h5 hx hy

theorem ef_update (hT : TR ι τ a) (hH : HR ι H w) {o : Oper} {t kt e0 : TypeId} {m k x : Operand} {ag : Bool} {ks : List Nat} {ys : List Od} {v : IV} {H' : Hp} (ho : o.op = .mapUpdate t m k x ∨ o.op = .insert t m k x) (hd : P.underlying t = some (.map kt e0)) (hk : keyT P kt = some (ag, ks))
    (hys : ods [m, k, x] = some ys) (hv : efUpd ag ks H (evs τ ys) = some (v, H')) : EfOk P ι H w o a v H' := by
  obtain ⟨o1, o2, o3, h1, h2, h3, rfl⟩ := ods3_inv hys
  have g1 := od_sound hT h1
  have g2 := od_sound hT h2
  have g3 := od_sound hT h3
  have hv' : efUpd ag ks H [o1.ev τ, o2.ev τ, o3.ev τ] = some (v, H') := hv
  unfold efUpd at hv'
  split at hv'
  · rename_i r k0 v0 e1
    injection e1 with e1 e2
    injection e2 with e2 e3
    injection e3 with e3 _
    subst e2 e3
    rw [e1] at g1
    obtain ⟨L, hL, x1⟩ := vr_m g1
    split at hv'
    · rename_i es c hm
      obtain ⟨es', f1, f2⟩ := map_sound hH (mapW_mapOf hm) hL
      have common : ∀ {res : Option (Nat × IEnt)} (hres : findK ag ks (o2.ev τ) es = some res), ∃ res', Found ι es es'.toList 0 res res' ∧ (Instr.mapUpdate t (.map (some L.r)) (a.eval k) (a.eval x)).run P w = .ok () { w with heap := w.heap.setIfInBounds L.r (.map (updEs res' es' (a.eval k) (a.eval x) c) (updC res' c)) } := by
        intro res hres
        obtain ⟨k1, k2⟩ := findK_inv hres
        obtain ⟨res', p1, p2⟩ := findKey_sound (P := P) w hk g2 f2 k2
        refine ⟨res', p2, mapUpdate_run hT hH hd f1 (key_ok (P := P) hk g2 false k1) p1 ?_⟩
        intro i vv hi
        subst hi
        cases res with
        | none => cases p2
        | some q =>
          obtain ⟨i', en⟩ := q
          obtain ⟨rfl, _, q3, e', q4, q5, q6, q7, q8⟩ := p2
          refine ⟨e', by simpa using q4, sameBits_of (findI_eq k2) g2 q8⟩
      have fin : ∀ {w' : World}, (Instr.mapUpdate t (.map (some L.r)) (a.eval k) (a.eval x)).run P w = .ok () w' → (execOp a.eval o).run P w = .ok .skip w' := by
        intro w' hrun
        rcases ho with ho | ho <;> simp [execOp, ho, x1, hrun]
      split at hv'
      · rename_i i en hres
        cases hv'
        obtain ⟨res', p2, hrun⟩ := common hres
        cases res' with
        | none => cases p2
        | some q =>
          obtain ⟨i', v'⟩ := q
          obtain ⟨rfl, _, q3, e', q4, q5, q6, q7, q8⟩ := p2
          refine ⟨undef, _, ι, .inr ⟨fin hrun, rfl⟩, vr_undef ι, map_set hH hm hL ?_⟩
          show ERs ι _ (Array.modify _ _ _).toList
          rw [Array.toList_modify]
          refine ers_mod _ f2 fun y y' e1 e2 => ?_
          have hy : y = en := by simpa [e1] using q3
          have hy' : y' = e' := by simpa [e2] using q4
          subst hy hy'
          have hkk := findI_eq (findK_inv hres).2
          refine ⟨?_, g3, q7.symm⟩
          have hsb := sameBits_of hkk g2 q8
          exact vr_key_swap hkk g2 q8
      · rename_i hres
        cases hv'
        obtain ⟨res', p2, hrun⟩ := common hres
        cases res' with
        | some q => cases p2
        | none =>
          refine ⟨undef, _, ι, .inr ⟨fin hrun, rfl⟩, vr_undef ι, map_set hH hm hL ?_⟩
          show ERs ι _ (Array.push _ _).toList
          rw [Array.toList_push]
          exact ers_push g2 g3 rfl f2
      · cases hv'
    · cases hv'
  · cases hv'
end
end Go.Fg
/- The ideal machine: append. -/
namespace Go.Fg

section
variable {P : Program} {ι : Emb} {τ : Fm} {a : Act} {H : Hp} {w : World}

def isInt : TypeDesc → Bool
  | .int _ => true
  | _ => false
theorem notInt {ut : TypeDesc} (h : ∀ k, ut ≠ .int k) : isInt ut = false := by cases ut <;> first | rfl | exact absurd rfl (h _)
theorem isInt_eq (ut : TypeDesc) : (match ut with | TypeDesc.int k => true | x => false) = isInt ut := rfl

/-- What is appended. -/
inductive New (P : Program) (w : World) (size bytes : Nat) (z : Value) (ats : Array TypeId) (x : Value) (n : Nat) (news : List Value) : Prop where
  | cells (xt : TypeId) (h1 : ats[1]? = some xt) (ut : TypeDesc) (h2 : P.underlying xt = some ut) (h3 : ∀ k, ut ≠ .int k)
      (h4 : ∀ w2 : World, (Builtin.lenOf x).run P w2 = .ok n w2) (h5 : ∀ w2 : World, w2.heap = w.heap → (Builtin.firstCells size n x).run P w2 = .ok news.toArray w2)
  | zeros (xt : TypeId) (k k' : IntKind) (h1 : ats[1]? = some xt) (h2 : P.underlying xt = some (.int k)) (hx : x = .int k' (n : Int)) (hn : n ≤ 100000000000) (hb : n * bytes ≤ 100000000000) (hz : n * size ≠ 0)
      (h : news.toArray = Builtin.zeroCells z.cells n)

theorem app_room {ats : Array TypeId} {t ty e : TypeId} {i : TypeInfo} {z : Value} {b : Addr} {sLen sCap n : Nat} {x : Value} {news : List Value} {w' : World} (h0 : ats[0]? = some t) (ht : P.underlying t = some (.slice e)) (hi : P.info? e = some i) (hz : i.zero = some z)
    (hnew : New P w i.size i.bytes z ats x n news) (hroom : sLen + n ≤ sCap) (hst : (storeCells (b.add (sLen * i.size)) news).run P w = .ok () w') :
    (Builtin.append_ ats ty #[.slice (some b) sLen sCap, x]).run P w = .ok (.slice (some b) (sLen + n) sCap) w' := by
  cases hnew with
  | cells xt h1 ut h2 h3 h4 h5 =>
    have hm := notInt h3
    have h5 := h5 w rfl
    simp only [Builtin.append_, h0, h1, run_underlying ht, run_underlying h2, sizeOf, typeInfo, hi, Sem.run_bind, Sem.run_pure, Result.andThen_ok, List.getElem?_toArray, List.getElem?_cons_zero, List.getElem?_cons_succ]
    simp [isInt_eq, hm, h4, hroom, h5, hst, hi]
  | zeros xt k k' h1 h2 hx hn hb hzz h =>
    subst hx
    have wl : IntKind.i64.wrap (n : Int) = n := IntWalk.i64_in _ (by omega)
    have hll : ¬ ((n : Int) < 0) := by omega
    have hbig : ¬ ((281474976710656 : Int) < (n : Int) * (i.bytes : Int)) := by
      have : (n : Int) * (i.bytes : Int) = ((n * i.bytes : Nat) : Int) := by simp
      rw [this]; omega
    simp only [Builtin.append_, h0, h1, run_underlying ht, run_underlying h2, sizeOf, typeInfo, hi, Sem.run_bind, Sem.run_pure, Result.andThen_ok, List.getElem?_toArray, List.getElem?_cons_zero, List.getElem?_cons_succ]
    simp [hi, hz, asInt, asIntOf, wl, hll, hbig, hroom, hzz, zeroValue, typeInfo, ← h, hst]

theorem app_grow {ats : Array TypeId} {t ty e : TypeId} {i : TypeInfo} {z : Value} {base : Option Addr} {sLen sCap n : Nat} {x : Value} {olds news : List Value} (h0 : ats[0]? = some t) (ht : P.underlying t = some (.slice e)) (hi : P.info? e = some i) (hz : i.zero = some z)
    (hnew : New P w i.size i.bytes z ats x n news) (hroom : sCap < sLen + n) (hold : ∀ w2 : World, w2.heap = w.heap → (Builtin.firstCells i.size sLen (.slice base sLen sCap)).run P w2 = .ok olds.toArray w2)
    (hfit : (sLen + n) * i.bytes ≤ 100000000000) (hb1 : 1 ≤ i.bytes) :
    (Builtin.append_ ats ty #[.slice base sLen sCap, x]).run P w = .ok (.slice (some ⟨w.heap.size, 0, none⟩) (sLen + n) (grownCap w (sLen + n) sCap e))
        (w.drew.alloc (.cells (olds.toArray ++ news.toArray ++ Builtin.zeroCells z.cells (grownCap w (sLen + n) sCap e - (sLen + n))) e)) := by
  have hn : ¬ (sLen + n ≤ sCap) := by omega
  have hbd : sLen + n ≤ 100000000000 := Nat.le_trans (by have := Nat.mul_le_mul_left (sLen + n) hb1; omega) hfit
  have h63' : ¬ (9223372036854775807 < ((sLen : Int) + (n : Int))) := by omega
  have hg := growslice_fits (need := sLen + n) (old := sCap) (bytes := i.bytes) hroom (by omega)
  have h48' : ¬ (281474976710656 < Builtin.nextslicecap (sLen + n) sCap * i.bytes) := by omega
  have hold' := hold w.drew rfl
  cases hnew with
  | cells xt h1 ut h2 h3 h4 h5 =>
    have hm := notInt h3
    have h5 := h5 w.drew rfl
    simp only [Builtin.append_, h0, h1, run_underlying ht, run_underlying h2, sizeOf, typeInfo, hi, Sem.run_bind, Sem.run_pure, Result.andThen_ok, List.getElem?_toArray, List.getElem?_cons_zero, List.getElem?_cons_succ]
    simp [isInt_eq, hm, h4, hn, h5, hi, hz, h63', h48', zeroValue, typeInfo, Question.forced, hold', newRow, grownCap]
    congr 2
    apply Array.ext'
    simp [List.append_assoc]
  | zeros xt k k' h1 h2 hx hn' hb hzz h =>
    subst hx
    have wl : IntKind.i64.wrap (n : Int) = n := IntWalk.i64_in _ (by omega)
    have hll : ¬ ((n : Int) < 0) := by omega
    have hbig : ¬ ((281474976710656 : Int) < (n : Int) * (i.bytes : Int)) := by
      have : (n : Int) * (i.bytes : Int) = ((n * i.bytes : Nat) : Int) := by simp
      rw [this]; omega
    have hzc : Builtin.zeroCells z.cells n = news.toArray := h.symm
    simp only [Builtin.append_, h0, h1, run_underlying ht, run_underlying h2, sizeOf, typeInfo, hi, Sem.run_bind, Sem.run_pure, Result.andThen_ok, List.getElem?_toArray, List.getElem?_cons_zero, List.getElem?_cons_succ]
    simp [hi, hz, asInt, asIntOf, wl, hll, hbig, hn, hzz, zeroValue, typeInfo, hzc, h63', h48', Question.forced, hold', newRow, grownCap]
    congr 2
    apply Array.ext'
    simp [List.append_assoc]

theorem app_none {ats : Array TypeId} {t ty e : TypeId} {i : TypeInfo} {sLen sCap : Nat} {base : Option Addr} {x : Value} {xt : TypeId} {ut : TypeDesc} (h0 : ats[0]? = some t) (ht : P.underlying t = some (.slice e)) (hi : P.info? e = some i) (hle : sLen ≤ sCap)
    (h1 : ats[1]? = some xt) (h2 : P.underlying xt = some ut)
    (h : ((∃ k k', ut = .int k ∧ x = .int k' 0)) ∨ ((∀ k, ut ≠ .int k) ∧ (Builtin.lenOf x).run P w = .ok 0 w ∧ (Builtin.firstCells i.size 0 x).run P w = .ok #[] w)) :
    (Builtin.append_ ats ty #[.slice base sLen sCap, x]).run P w = .ok (.slice base sLen sCap) w := by
  rcases h with ⟨k, k', rfl, rfl⟩ | ⟨h3, h4, h5⟩
  · have w0 : IntKind.i64.wrap (0 : Int) = 0 := IntWalk.i64_in _ (by omega)
    simp only [Builtin.append_, h0, h1, run_underlying ht, run_underlying h2, sizeOf, typeInfo, hi, Sem.run_bind, Sem.run_pure, Result.andThen_ok, List.getElem?_toArray, List.getElem?_cons_zero, List.getElem?_cons_succ]
    cases base <;> simp [hi, asInt, asIntOf, w0, hle, storeCells]
  · have hm : (match ut with | TypeDesc.int k => true | x => false) = false := by cases ut <;> first | rfl | exact absurd rfl (h3 _)
    simp only [Builtin.append_, h0, h1, run_underlying ht, run_underlying h2, sizeOf, typeInfo, hi, Sem.run_bind, Sem.run_pure, Result.andThen_ok, List.getElem?_toArray, List.getElem?_cons_zero, List.getElem?_cons_succ]
    cases base <;> simp [isInt_eq, hm, hi, h4, h5, hle, storeCells]

theorem HR.congr {w2 : World} (hH : HR ι H w) (h : w2.heap = w.heap) : HR ι H w2 where
  pro z r sh hz := (hH.pro z r sh hz).mono (.refl _) (by rw [h])
  apart := hH.apart
  blk b x L h1 h2 := (hH.blk b x L h1 h2).mono (.refl _) (by rw [h])
  inj := hH.inj
  lt b L h1 := by rw [h]; exact hH.lt b L h1
  low := hH.low

/-- A run of cells, read, at every world with that memory. -/
theorem read_all (hH : HR ι H w) {b : Pos} {o n : Nat} {l : List IV} {L : Loc} (h : H.read b o n = some l) (hL : ι b = some L) :
    ∃ l' : List Value, VRs ι l l' ∧ l.length = n ∧ (∀ w2 : World, w2.heap = w.heap → (loadCells ⟨L.r, L.sh + o, none⟩ n).run P w2 = .ok l'.toArray w2) ∧
      ∀ j, j < n → ∀ c e fr, w.heap[L.r]? = some (.cells c e fr) → c[L.sh + o + j]? = l'[j]? := by
  obtain ⟨l', k1, k2, k3⟩ := read_sound (P := P) hH h hL
  obtain ⟨m, l0, h1, h2, _, h4, h5⟩ := read_inv h
  obtain ⟨g1, g2, c, e, lo, hi, g3, g4, g5, g6⟩ := cells_br hH h1 hL
  have cell : ∀ w2 : World, w2.heap = w.heap → (loadCells ⟨L.r, L.sh + o, none⟩ n).run P w2 = .ok ((c.toList.drop (L.sh + o)).take n).toArray w2 := fun w2 hw2 => by
    have := run_loadCells_list (P := P) w2 ⟨L.r, L.sh + o, none⟩ ((c.toList.drop (L.sh + o)).take n) (fun j v hv => by
      rw [addr_add]
      unfold World.cell?
      simp only [hw2, g3]
      have hj : j < n := by
        have := (List.getElem?_eq_some_iff.1 hv).1
        simp at this; omega
      rw [List.getElem?_take, if_pos hj, List.getElem?_drop] at hv
      simpa using hv)
    rwa [show ((c.toList.drop (L.sh + o)).take n).length = n from by simp; omega] at this
  have e0 : l' = (c.toList.drop (L.sh + o)).take n := by
    have := k3.symm.trans (cell w rfl)
    injection this with this _
    simpa using congrArg Array.toList this
  refine ⟨l', k1, k2, fun w2 hw2 => by rw [e0]; exact cell w2 hw2, fun j hj c2 e2 fr hc => ?_⟩
  rw [g3] at hc; cases hc
  rw [e0, List.getElem?_take, if_pos hj, List.getElem?_drop]
  simp

/-- Cells of one block are written: what the block holds then. -/
theorem cells_write {m : Nat} {l : List IV} {L : Loc} (hbr : BR ι (.cells m l) L w) {o : Nat} {news : List Value} (ho : o + news.length ≤ L.sz) (ha : ∀ v ∈ news, v.oneCell' = true) :
    ∃ w' c' e lo hi, (storeCells ⟨L.r, o, none⟩ news).run P w = .ok () w' ∧ w'.heap[L.r]? = some (.cells c' e (lo, hi)) ∧ c'.size = L.sz ∧ (∀ q, q < L.sz → ¬ (lo ≤ q ∧ q < hi)) ∧
      (∀ i : Nat, o ≤ i → i < o + news.length → c'[i]? = news[i - o]?) ∧ (∀ i : Nat, i < o → ∀ v, l[i - L.sh]? = some v → L.sh ≤ i → ∃ v', c'[i]? = some v' ∧ VR ι v v') ∧
      (∀ i : Nat, i < o → ∀ c e2 fr, w.heap[L.r]? = some (.cells c e2 fr) → c'[i]? = c[i]?) ∧
      w'.heap.size = w.heap.size ∧ (∀ r, r ≠ L.r → w'.heap[r]? = w.heap[r]?) ∧ sameOut w w' := by
  obtain ⟨g1, g2, c, e, lo, hi, g3, g4, g5, g6⟩ := hbr
  obtain ⟨c', k1, k2, k3, k4, k5, k6⟩ := setCells_heap L.r news o w c g3 (by omega)
  have hrun := run_storeCells_cells (P := P) L.r o news 0 w (fun j hj => by
      have : o + j < c.size := by omega
      simp [World.cell?, g3, this]) (fun j hj => by
      have := g5 (o + 0 + j) (by omega)
      simp [World.frozen?, g3]
      intro h; simp at this; omega) ha
  refine ⟨_, c', e, lo, hi, hrun, ?_, by omega, g5, ?_, ?_, ?_, ?_, ?_, ?_⟩
  · rw [Nat.add_zero]; exact k1
  · intro i h1 h2; rw [k3 i, if_pos ⟨h1, h2⟩]
  · intro i h1 v hv h2
    rw [k3 i, if_neg (by omega)]
    have := g6 (i - L.sh) v hv
    rwa [show L.sh + (i - L.sh) = i by omega] at this
  · intro i h1 c2 e2 fr hc
    rw [g3] at hc; cases hc
    rw [k3 i, if_neg (by omega)]
  · rw [Nat.add_zero]; exact k5
  · rw [Nat.add_zero]; exact k4
  · rw [Nat.add_zero]; exact k6

section
variable {ats : Array TypeId} {t ty e : TypeId} {i : TypeInfo} {z : Value} {bytes sz : Nat} (h0 : ats[0]? = some t) (ht : P.underlying t = some (.slice e)) (hi : P.info? e = some i) (hz : i.zero = some z)
  (hsz : i.size = sz) (hby : i.bytes = bytes) (hb1 : 1 ≤ bytes) (hs1 : 1 ≤ sz) (hzs : z.cells.size = sz)

/-- The new block of an append. -/
theorem app_new (h0 : ats[0]? = some t) (ht : P.underlying t = some (.slice e)) (hi : P.info? e = some i) (hz : i.zero = some z) (hsz : i.size = sz) (hby : i.bytes = bytes) (hb1 : 1 ≤ bytes) (hs1 : 1 ≤ sz) (hzs : z.cells.size = sz) (hH : HR ι H w) {base : Option Addr} {sLen sCap n : Nat} {x : Value} {old new : List IV} {olds news : List Value} (hnew : New P w i.size i.bytes z ats x n news) (hroom : sCap < sLen + n)
    (hold : ∀ w2 : World, w2.heap = w.heap → (Builtin.firstCells i.size sLen (.slice base sLen sCap)).run P w2 = .ok olds.toArray w2) (ho : VRs ι old olds) (hn : VRs ι new news) (hol : old.length = sLen * sz) (hnl : new.length = n * sz)
    (hfit : (sLen + n) * bytes ≤ 100000000000) (hfree : ι H.next = none) :
    ∃ v' w' ι', (Builtin.append_ ats ty #[.slice base sLen sCap, x]).run P w = .ok v' w' ∧ VR ι' (.sl H.next 0 (sLen + n) 0 sz) v' ∧ Fin ι H w ι' (H.new (.cells ((sLen + n) * sz) (app old new))) w' := by
  subst hsz hby
  have hrun := app_grow (ty := ty) h0 ht hi hz hnew hroom hold hfit hb1
  have hge := grownCap_ge w (sLen + n) sCap e
  have hsize : (olds.toArray ++ news.toArray ++ Builtin.zeroCells z.cells (grownCap w (sLen + n) sCap e - (sLen + n))).size = grownCap w (sLen + n) sCap e * i.size := by
    simp only [Array.size_append, List.size_toArray, size_zeroCells, hzs, ho.length, hn.length, hol, hnl, ← Nat.add_mul]
    congr 1
    omega
  refine ⟨_, _, ι.upd H.next ⟨w.heap.size, 0, grownCap w (sLen + n) sCap e * i.size⟩, hrun, ?_, ?_⟩
  · exact .sl H.next 0 (sLen + n) 0 i.size ⟨w.heap.size, 0, grownCap w (sLen + n) sCap e * i.size⟩ _ (Emb.upd_eq _ _ _) hge (.inl rfl) (by simp)
  · refine Fin.alloc (ob := .cells (olds.toArray ++ news.toArray ++ Builtin.zeroCells z.cells (grownCap w (sLen + n) sCap e - (sLen + n))) e) hH hfree rfl rfl ?_ ⟨rfl, rfl, rfl, frozen_push w _ _⟩
    have hvs : VRs ι (old ++ new) (olds ++ news) := ho.append hn
    have := br_new (ι' := ι.upd H.next ⟨w.heap.size, 0, grownCap w (sLen + n) sCap e * i.size⟩) (l := old ++ new) (c := olds.toArray ++ news.toArray ++ Builtin.zeroCells z.cells (grownCap w (sLen + n) sCap e - (sLen + n))) (e := e) (lo := 0) (hi := 0) (n := (sLen + n) * i.size) (w := w)
      (w' := w.drew.alloc (.cells (olds.toArray ++ news.toArray ++ Builtin.zeroCells z.cells (grownCap w (sLen + n) sCap e - (sLen + n))) e)) push_get
      (by rw [List.length_append, hol, hnl, Nat.add_mul]) (by rw [hsize]; exact Nat.mul_le_mul_right _ hge) (by omega) (fun j v hv => by
        obtain ⟨v', e1, e2⟩ := (hvs.mono (Emb.le_upd _ hfree)).get hv
        have hlt : j < (olds ++ news).length := by
          rcases Nat.lt_or_ge j (olds ++ news).length with h | h
          · exact h
          · rw [List.getElem?_eq_none h] at e1; cases e1
        refine ⟨v', ?_, e2⟩
        rw [Array.getElem?_append_left (by simpa using hlt)]
        simpa using e1)
    rw [hsize] at this
    rw [app_eq]
    exact this

theorem append_sound (h0 : ats[0]? = some t) (ht : P.underlying t = some (.slice e)) (hi : P.info? e = some i) (hz : i.zero = some z) (hsz : i.size = sz) (hby : i.bytes = bytes) (hb1 : 1 ≤ bytes) (hs1 : 1 ≤ sz) (hzs : z.cells.size = sz) (hH : HR ι H w) {n : Nat} {s v : IV} {s' x : Value} {new : List IV} {news : List Value} {H' : Hp} (hs : VR ι s s') (hn : VRs ι new news) (hnl : new.length = n * sz) (ha : ∀ v ∈ news, v.oneCell' = true)
    (hnone : n = 0 → ∀ base l c, l ≤ c → (Builtin.append_ ats ty #[.slice base l c, x]).run P w = .ok (.slice base l c) w) (hnew : n ≠ 0 → New P w i.size i.bytes z ats x n news)
    (hfree : H.next.num < H'.next.num → ι H.next = none) (hv : appendI H sz bytes s n new = some (v, H')) :
    ∃ v' w' ι', (Builtin.append_ ats ty #[s', x]).run P w = .ok v' w' ∧ VR ι' v v' ∧ Fin ι H w ι' H' w' := by
  unfold appendI at hv
  split at hv
  · -- nil
    have := vr_sn hs
    subst this
    cases q : Nat.beq n 0 with
    | true =>
      have := Nat.eq_of_beq_eq_true q
      subst this
      cases hv
      exact ⟨_, w, ι, hnone rfl _ _ _ (Nat.le_refl _), hs, .refl hH⟩
    | false =>
      rw [q] at hv
      have hn0 := Nat.ne_of_beq_eq_false q
      obtain ⟨g1, g2⟩ := cond_some hv
      cases g2
      have g1 := Nat.le_of_ble_eq_true g1
      have := app_new (ty := ty) (sz := sz) (bytes := bytes) (old := []) (olds := []) h0 ht hi hz hsz hby hb1 hs1 hzs hH (base := none) (sLen := 0) (sCap := 0) (hnew hn0) (by omega) (fun w2 _ => run_firstCells_none w2 _ _ _ _) .nil hn (by simp) hnl (by unfold bound at g1; simpa using g1) (hfree (by rw [Hp.next_new, Pos.num_nxt]; omega))
      simpa [app_eq] using this
  · rename_i b o len c z'
    obtain ⟨g1, g2⟩ := cond_some hv
    have hz' := Nat.eq_of_beq_eq_true g1
    subst hz'
    cases q : Nat.beq n 0 with
    | true =>
      have := Nat.eq_of_beq_eq_true q
      subst this
      rw [q] at g2
      cases g2
      rcases vr_sl hs with ⟨L, c', _, hle, _, _, rfl⟩ | ⟨ad, rfl, _, rfl⟩
      · exact ⟨_, w, ι, hnone rfl _ _ _ hle, hs, .refl hH⟩
      · exact ⟨_, w, ι, hnone rfl _ _ _ (Nat.le_refl _), hs, .refl hH⟩
    | false =>
      rw [q] at g2
      have hn0 := Nat.ne_of_beq_eq_false q
      obtain ⟨g3, g4⟩ := cond_some g2
      have g3 := Nat.le_of_ble_eq_true g3
      unfold bound at g3
      split at g4
      · cases g4
      · rename_i old hold
        obtain ⟨L0, hL0⟩ := vr_sl_dom hs
        -- the elder cells
        have olds : ∃ olds : List Value, VRs ι old olds ∧ old.length = len * z' ∧ ∀ (bs : Option Addr) (cp : Nat), s' = .slice bs len cp → ∀ w2 : World, w2.heap = w.heap → (Builtin.firstCells i.size len s').run P w2 = .ok olds.toArray w2 := by
          cases q0 : Nat.beq len 0 with
          | true =>
            have := Nat.eq_of_beq_eq_true q0
            subst this
            rw [q0] at hold
            cases hold
            refine ⟨[], .nil, by simp, fun bs cp hs' w2 _ => ?_⟩
            subst hs'
            cases bs <;> simp [Builtin.firstCells, loadCells, loadCellsFrom]
          | false =>
            rw [q0] at hold
            have hl0 := Nat.ne_of_beq_eq_false q0
            rcases vr_sl hs with ⟨L, c', hL, _, _, _, rfl⟩ | ⟨ad, h00, _, rfl⟩
            · obtain ⟨l', k1, k2, k3, k4⟩ := read_all (P := P) hH hold hL
              refine ⟨l', k1, k2, fun bs cp hs' w2 hw2 => ?_⟩
              simpa [Builtin.firstCells, hsz] using k3 w2 hw2
            · exact absurd h00 hl0
        obtain ⟨olds, ho1, ho2, ho3⟩ := olds
        unfold growI at g4
        split at g4
        · -- the capacity is not known
          rename_i c0
          obtain ⟨gc, g5⟩ := cond_some g4
          cases g5
          have hfr : ι H.next = none := hfree (by rw [Hp.next_new, Pos.num_nxt, Hp.next_kill]; omega)
          obtain ⟨m, l, hb⟩ : ∃ m l, H.get b = some (.cells m l) := by
            unfold isCells at gc
            split at gc
            · rename_i m l e; exact ⟨m, l, e⟩
            · cases gc
          have more : ∀ {bs : Option Addr} {cp : Nat}, s' = .slice bs len cp → cp < len + n → ∃ v' w' ι', (Builtin.append_ ats ty #[s', x]).run P w = .ok v' w' ∧ VR ι' (.sl H.next 0 (len + n) 0 z') v' ∧ Fin ι H w ι' ((H.kill b).new (.cells ((len + n) * z') (app old new))) w' := by
            intro bs cp hs' hlt
            have hk := Fin.kill hH hL0
            obtain ⟨v', w', ι', k1, k2, k3⟩ := app_new (ty := ty) (sz := z') (bytes := bytes) h0 ht hi hz hsz hby hb1 hs1 hzs hk.hr (base := bs) (sLen := len) (sCap := cp) (hnew hn0) hlt (fun w2 h => by rw [← hs']; exact ho3 bs cp hs' w2 h) ho1 hn ho2 hnl g3 hfr
            exact ⟨v', w', ι', by rw [hs']; exact k1, k2, hk.trans k3⟩
          rcases vr_sl hs with ⟨L, c', hL, hle, _, hsz', hs'⟩ | ⟨ad, h00, _, hs'⟩
          · by_cases hroom : len + n ≤ c'
            · have hbr := hH.blk b _ L hb hL
              have hmul : (len + n) * z' ≤ c' * z' := Nat.mul_le_mul_right _ hroom
              rw [Nat.add_mul] at hmul
              obtain ⟨w', cc, ee, lo, hi', k1, k2, k3, k4, k5, k6, k7, k8, k9, k10⟩ := cells_write (P := P) hbr (o := L.sh + o + len * z') (news := news) (by rw [hn.length, hnl]; omega) ha
              have hrun := app_room (ty := ty) (b := ⟨L.r, L.sh + o, none⟩) (sLen := len) (sCap := c') h0 ht hi hz (hnew hn0) hroom (by rw [hsz, addr_add]; exact k1)
              refine ⟨_, w', ι.upd H.next ⟨L.r, L.sh + o, L.sz⟩, by rw [hs']; exact hrun, ?_, ?_⟩
              · have := VR.sl (ι := ι.upd H.next ⟨L.r, L.sh + o, L.sz⟩) H.next 0 (len + n) 0 z' ⟨L.r, L.sh + o, L.sz⟩ c' (Emb.upd_eq _ _ _) hroom (.inl rfl) (by simpa using hsz')
                simpa using this
              · refine Fin.grow hH hfr hb rfl hL rfl ?_ k8 k9 k10
                refine ⟨by rw [app_eq, List.length_append, ho2, hnl, Nat.add_mul], by rw [Nat.add_mul]; show L.sh + o + _ ≤ L.sz; omega, cc, ee, lo, hi', k2, k3, k4, fun j v hj => ?_⟩
                show ∃ v', cc[L.sh + o + j]? = some v' ∧ _
                rw [app_eq] at hj
                by_cases hjl : j < len * z'
                · rw [List.getElem?_append_left (by omega)] at hj
                  -- an elder cell
                  have hl0 : len ≠ 0 := by intro h; subst h; simp at hjl
                  have hrd : H.read b o (len * z') = some old := by
                    have : Nat.beq len 0 = false := beq_no hl0
                    rw [this] at hold; exact hold
                  obtain ⟨l', r1, r2, _, r3⟩ := read_all (P := P) hH hrd hL
                  obtain ⟨v', e1, e2⟩ := r1.get hj
                  obtain ⟨g1', g2', c1, e1', lo1, hi1, g3', g4', g5', g6'⟩ := hbr
                  refine ⟨v', ?_, e2.mono (Emb.le_upd _ hfr)⟩
                  rw [k7 _ (by omega) c1 e1' (lo1, hi1) g3', ← e1, r3 j (by omega) c1 e1' (lo1, hi1) g3']
                · rw [List.getElem?_append_right (by omega), ho2] at hj
                  obtain ⟨v', e1, e2⟩ := hn.get hj
                  have hlt : j - len * z' < news.length := by
                    rcases Nat.lt_or_ge (j - len * z') news.length with h | h
                    · exact h
                    · rw [List.getElem?_eq_none h] at e1; cases e1
                  refine ⟨v', ?_, e2.mono (Emb.le_upd _ hfr)⟩
                  rw [k5 _ (by omega) (by omega), show L.sh + o + j - (L.sh + o + len * z') = j - len * z' by omega]
                  exact e1
            · exact more hs' (by omega)
          · subst h00; exact more hs' (by omega)
        · -- the capacity is known
          rename_i c0
          cases qr : Nat.ble (len + n) c0 with
          | true =>
            rw [qr] at g4
            have hroom := Nat.le_of_ble_eq_true qr
            have g4 : (match H.write b (o + len * z') (n * z') new with | some h' => some (IV.sl b o (len + n) (c0 + 1) z', h') | none => none) = some (v, H') := g4
            split at g4
            · rename_i h' hw
              cases g4
              rcases vr_sl hs with ⟨L, c', hL, hle, hc, hsz', hs'⟩ | ⟨ad, h00, hc, hs'⟩
              · have hc' : c' = c0 := by rcases hc with h | h <;> omega
                subst hc'
                obtain ⟨w', k1, k2⟩ := write_sound (P := P) hH hw hL hn hnl ha
                have hrun := app_room (ty := ty) (b := ⟨L.r, L.sh + o, none⟩) (sLen := len) (sCap := c') h0 ht hi hz (hnew hn0) hroom (w' := w') (by rw [hsz, ← k1, addr_add, Nat.add_assoc])
                exact ⟨_, w', ι, by rw [hs']; exact hrun, .sl b o (len + n) (c' + 1) z' L c' hL hroom (.inr rfl) hsz', k2⟩
              · exfalso; omega
            · cases g4
          | false =>
            rw [qr] at g4
            cases g4
            have hlt := Nat.lt_of_not_le fun h => by rw [Nat.ble_eq_true_of_le h] at qr; cases qr
            have hfr : ι H.next = none := hfree (by rw [Hp.next_new, Pos.num_nxt]; omega)
            have fin : ∀ {bs : Option Addr} {cp : Nat}, s' = .slice bs len cp → cp < len + n → ∃ v' w' ι', (Builtin.append_ ats ty #[s', x]).run P w = .ok v' w' ∧ VR ι' (.sl H.next 0 (len + n) 0 z') v' ∧ Fin ι H w ι' (H.new (.cells ((len + n) * z') (app old new))) w' := by
              intro bs cp hs' hlt
              obtain ⟨v', w', ι', k1, k2, k3⟩ := app_new (ty := ty) (sz := z') (bytes := bytes) h0 ht hi hz hsz hby hb1 hs1 hzs hH (base := bs) (sLen := len) (sCap := cp) (hnew hn0) hlt (fun w2 h => by rw [← hs']; exact ho3 bs cp hs' w2 h) ho1 hn ho2 hnl g3 hfr
              exact ⟨v', w', ι', by rw [hs']; exact k1, k2, k3⟩
            rcases vr_sl hs with ⟨L, c', hL, hle, hc, _, hs'⟩ | ⟨ad, h00, hc, hs'⟩
            · exact fin hs' (by rcases hc with h | h <;> omega)
            · subst h00; exact fin hs' (by omega)
  · cases hv
end

end
end Go.Fg
/- The ideal machine: every operation that changes memory. -/
namespace Go.Fg

section
variable {P : Program} {ι : Emb} {τ : Fm} {a : Act} {H : Hp} {w : World}

/-- The same memory under another name. -/
theorem Fin.alike {ι' : Emb} {H' H2 : Hp} {w' : World} (h : Fin ι H w ι' H' w') (hg : ∀ c, H2.get c = H'.get c) (hn : H2.next = H'.next) : Fin ι H w ι' H2 w' where
  ext := h.ext
  fresh b h1 h2 := by rw [hn]; exact h.fresh b h1 h2
  hr := { pro := h.hr.pro
          apart := fun b x L y r sh h1 => h.hr.apart b x L y r sh (by rw [← hg]; exact h1)
          blk := fun b x L h1 h2 => h.hr.blk b x L (by rw [← hg]; exact h1) h2
          inj := fun b₁ b₂ L₁ L₂ h1 h2 => h.hr.inj b₁ b₂ L₁ L₂ (by rw [← hg]; exact h1) (by rw [← hg]; exact h2)
          lt := h.hr.lt
          low := fun b hb => by rw [hn]; exact h.hr.low b (by rw [← hg]; exact hb) }
  up := by rw [hn]; exact h.up
  size := h.size
  frame := h.frame
  cover b L h1 h2 h3 := h.cover b L h1 (by rw [← hg]; exact h2) h3
  icov := h.icov
  still b h1 h2 := by rw [hg]; exact h.still b h1 h2
  out := h.out

/-- The first cells of a slice. -/
theorem first_all (hH : HR ι H w) {z n : Nat} {x : IV} {x' : Value} {l : List IV} (h : firstI H z n x = some l) (hx : VR ι x x') : ∃ l' : List Value, VRs ι l l' ∧ l.length = n * z ∧ (∀ w2 : World, w2.heap = w.heap → (Builtin.firstCells z n x').run P w2 = .ok l'.toArray w2) := by
  unfold firstI at h
  split at h
  · rename_i b o len c z'
    obtain ⟨h1, h2⟩ := cond_some h
    simp only [Bool.and_eq_true] at h1
    have hz := Nat.eq_of_beq_eq_true h1.1
    subst hz
    cases hn : Nat.beq n 0 with
    | true =>
      rw [hn] at h2
      have := Nat.eq_of_beq_eq_true hn
      subst this
      cases h2
      refine ⟨[], .nil, by simp, fun w2 _ => ?_⟩
      rcases vr_sl hx with ⟨L, c', _, _, _, _, rfl⟩ | ⟨ad, _, _, rfl⟩ <;> simp [Builtin.firstCells, loadCells, loadCellsFrom]
    | false =>
      rw [hn] at h2
      rcases vr_sl hx with ⟨L, c', hL, _, _, _, rfl⟩ | ⟨ad, h0, _, rfl⟩
      · obtain ⟨l', g1, g2, g3, _⟩ := read_all (P := P) hH h2 hL
        exact ⟨l', g1, g2, fun w2 hw2 => by simpa [Builtin.firstCells] using g3 w2 hw2⟩
      · have := Nat.le_of_ble_eq_true h1.2
        subst h0
        have : n = 0 := by omega
        subst this
        cases hn
  · obtain ⟨h1, h2⟩ := cond_some h
    cases h2
    have := Nat.eq_of_beq_eq_true h1
    subst this
    have := vr_sn hx
    subst this
    exact ⟨[], .nil, by simp, fun w2 _ => by simp [Builtin.firstCells]⟩
  · rename_i s
    obtain ⟨h1, h2⟩ := cond_some h
    simp only [Bool.and_eq_true] at h1
    have hz := Nat.eq_of_beq_eq_true h1.1
    have hn := Nat.le_of_ble_eq_true h1.2
    subst hz
    cases h2
    obtain ⟨bs, hb, rfl⟩ := vr_s hx
    subst hb
    rw [List.length_map, Array.length_toList] at hn
    refine ⟨(bs.data.toList.take n).map fun b => Value.int .u8 (b.toNat : Int), ?_, ?_, fun w2 _ => ?_⟩
    · rw [takeN_eq, List.map_map, ← List.map_take]
      generalize bs.data.toList.take n = q
      induction q with
      | nil => exact .nil
      | cons x q ih => exact .cons _ _ _ _ (.i _ _) ih
    · rw [takeN_eq, List.length_take, List.length_map, List.length_map, Array.length_toList]; omega
    · simp only [Builtin.firstCells, Sem.run_pure]
      congr 1
      apply Array.ext'
      simp [ByteArray.data_extract, List.extract_eq_take_drop]
  · rename_i es
    obtain ⟨h1, h2⟩ := cond_some h
    cases h2
    simp only [Bool.and_eq_true] at h1
    have hn := Nat.le_of_ble_eq_true h1.1
    have hz : ∀ e ∈ es, e.length = z := fun e he => Nat.eq_of_beq_eq_true (List.all_eq_true.1 h1.2 e he)
    have hlen : (es.take n).flatten.length = n * z := by
      rw [flatten_len (fun e he => hz e (List.mem_of_mem_take he)), List.length_take, Nat.min_eq_left hn]
    rcases vr_sli hx with ⟨l0, rr, sh, d, z', c, q1, q2, q3, q4, rfl⟩ | ⟨rfl, ad, c, rfl⟩ | ⟨rfl, rfl⟩
    · obtain ⟨l', p1, p2⟩ := im_reads (P := P) hH q1 (List.IsPrefix.trans (flatten_take_prefix es n) q2)
      rw [hlen] at p2
      exact ⟨l', p1, hlen, fun w2 hw2 => by simpa [Builtin.firstCells] using p2 w2 hw2⟩
    · have : n = 0 := by simpa using hn
      subst this
      exact ⟨[], .nil, by simp, fun w2 _ => by simp [Builtin.firstCells, loadCells, loadCellsFrom]⟩
    · have : n = 0 := by simpa using hn
      subst this
      exact ⟨[], .nil, by simp, fun w2 _ => by simp [Builtin.firstCells]⟩
  · cases h

theorem cond_true {x y : Bool} (h : cond x y false = true) : x = true ∧ y = true := by
  cases x with
  | false => cases h
  | true => exact ⟨rfl, h⟩

theorem ers_get : ∀ {es : List IEnt} {es' : List MapEntry} {n : Nat} {e : IEnt}, ERs ι es es' → es[n]? = some e → ∃ e', es'[n]? = some e' ∧ VR ι e.key e'.key ∧ VR ι e.val e'.val ∧ e.born = e'.born
  | [], _, n, e, _, h => by simp at h
  | x :: es, _, 0, e, hr, h => by
    cases hr
    rename_i e' es' h1 h2 h3 ht
    simp at h; subst h
    exact ⟨e', by simp, h1, h2, h3⟩
  | x :: es, _, n + 1, e, hr, h => by
    cases hr
    rename_i e' es' h1 h2 h3 ht
    simp at h
    obtain ⟨y, k1, k2⟩ := ers_get ht h
    exact ⟨y, by simpa using k1, k2⟩

theorem ers_mod2 {f' : MapEntry → MapEntry} : ∀ {es : List IEnt} {es' : List MapEntry} (n : Nat), ERs ι es es' →
    (∀ (e : IEnt) (e' : MapEntry), es[n]? = some e → es'[n]? = some e' → VR ι e.key (f' e').key ∧ VR ι e.val (f' e').val ∧ e.born = (f' e').born) → ERs ι es (es'.modify n f')
  | [], _, n, h, _ => by cases h; simp; exact .nil
  | e :: es, _, 0, h, hk => by
    cases h
    rename_i e' es' h1 h2 h3 ht
    obtain ⟨k1, k2, k3⟩ := hk e e' (by simp) (by simp)
    simp
    exact .cons _ _ _ _ k1 k2 k3 ht
  | e :: es, _, n + 1, h, hk => by
    cases h
    rename_i e' es' h1 h2 h3 ht
    simp
    exact .cons _ _ _ _ h1 h2 h3 (ers_mod2 n ht (fun x x' e1 e2 => hk x x' (by simpa using e1) (by simpa using e2)))

theorem copy_run {ats : Array TypeId} {t ty e : TypeId} {i : TypeInfo} {base : Option Addr} {dLen cp m2 : Nat} {x : Value} {news : List Value} {w' : World} (h0 : ats[0]? = some t) (ht : P.underlying t = some (.slice e)) (hi : P.info? e = some i)
    (hlen : (Builtin.lenOf x).run P w = .ok m2 w) (hf : (Builtin.firstCells i.size (min m2 dLen) x).run P w = .ok news.toArray w)
    (hst : match base with | none => w' = w | some b => (storeCells b news).run P w = .ok () w') :
    (Builtin.copy_ ats ty #[.slice base dLen cp, x]).run P w = .ok (.int .i64 (min m2 dLen : Nat)) w' := by
  have hmin : Nat.min m2 dLen = min m2 dLen := rfl
  cases base with
  | none =>
    simp only [] at hst
    subst hst
    simp [Builtin.copy_, h0, run_underlying ht, hlen, sizeOf, typeInfo, hi, hmin, hf, goInt]
  | some b =>
    simp only [] at hst
    simp [Builtin.copy_, h0, run_underlying ht, hlen, sizeOf, typeInfo, hi, hmin, hf, hst, goInt]

theorem toList2 {c : Array Operand} {p q : Operand} (h : c.toList = [p, q]) : c = #[p, q] := by
  apply Array.ext'; simpa using h
theorem toList1 {c : Array Operand} {p : Operand} (h : c.toList = [p]) : c = #[p] := by
  apply Array.ext'; simpa using h

/-- Two arguments. -/
theorem args2 (hT : TR ι τ a) {l : List Operand} {ys : List Od} {u v : IV} (h : ods l = some ys) (e : evs τ ys = [u, v]) : ∃ p q, l = [p, q] ∧ VR ι u (a.eval p) ∧ VR ι v (a.eval q) := by
  have hs := ods_sound hT h
  rw [e] at hs
  obtain ⟨y1, y2, e2, h1, h2⟩ := vrs2 hs
  match l, e2 with
  | [p, q], e2 =>
    simp at e2
    exact ⟨p, q, rfl, by rw [e2.1]; exact h1, by rw [e2.2]; exact h2⟩
  | [], e2 => simp at e2
  | [_], e2 => simp at e2
  | _ :: _ :: _ :: _, e2 => simp at e2
theorem args1 (hT : TR ι τ a) {l : List Operand} {ys : List Od} {u : IV} (h : ods l = some ys) (e : evs τ ys = [u]) : ∃ p, l = [p] ∧ VR ι u (a.eval p) := by
  have hs := ods_sound hT h
  rw [e] at hs
  obtain ⟨y1, e2, h1⟩ := vrs1 hs
  match l, e2 with
  | [p], e2 =>
    simp at e2
    exact ⟨p, rfl, by rw [e2]; exact h1⟩
  | [], e2 => simp at e2
  | _ :: _ :: _, e2 => simp at e2

variable (hT : TR ι τ a) (hH : HR ι H w)

theorem ef_app (hT : TR ι τ a) (hH : HR ι H w) {o : Oper} {c : Call} {t xt e : TypeId} {ut : TypeDesc} {bs n : Nat} {z : IV} {ys : List Od} {v : IV} {H' : Hp} (ho : o.op = .call c) (hcal : c.callee = .builtin .append) (h0 : c.argTypes[0]? = some t) (ht : P.underlying t = some (.slice e))
    (hn : sz P e = some n) (hb : byts P e = some bs) (hz : zeroI P e = some z) (hok : okSize n bs = true) (hzn : Nat.beq (lenN z.cells) n = true) (h1 : c.argTypes[1]? = some xt) (h2 : P.underlying xt = some ut) (h3 : ∀ k, ut ≠ .int k)
    (hfree : H.next.num < H'.next.num → ι H.next = none)
    (hys : ods c.args.toList = some ys) (hv : efApp n bs H (evs τ ys) = some (v, H')) : EfOk P ι H w o a v H' := by
  unfold efApp at hv
  split at hv
  · rename_i s x e1
    obtain ⟨p, q, hpq, gs, gx⟩ := args2 hT hys e1
    have hargs := toList2 hpq
    obtain ⟨i, hi, hs⟩ := info_of_sz hn
    have hbs : i.bytes = bs := by unfold byts at hb; rw [hi] at hb; cases hb; rfl
    obtain ⟨iz, vz, hiz, hzz, hvz⟩ := zeroI_sound (ι := ι) hz
    rw [hi] at hiz; cases hiz
    have hcz := vr_cells hvz
    have hzn := Nat.eq_of_beq_eq_true hzn
    rw [lenN_eq] at hzn
    unfold okSize at hok
    simp only [Bool.and_eq_true] at hok
    have hn1 := Nat.le_of_ble_eq_true hok.1.1
    have hb1 := Nat.le_of_ble_eq_true hok.1.2
    have hvsz : vz.cells.size = n := by rw [← hzn, ← hcz.length]; simp
    split at hv
    · rename_i m hm
      split at hv
      · rename_i new hnew
        obtain ⟨ha, hv⟩ := cond_some hv
        rw [allAtoms_eq] at ha
        obtain ⟨news, k1, k2, k3⟩ := first_all (P := P) hH hnew gx
        obtain ⟨v', w', ι', r1, r2, r3⟩ := append_sound (ty := o.type) (ats := c.argTypes) (x := a.eval q) h0 ht hi hzz hs hbs hb1 hn1 hvsz hH gs k1 k2 (atoms_of_read k1 ha)
          (fun hm0 base l cp hle => app_none h0 ht hi hle h1 h2 (.inr ⟨h3, by rw [← hm0]; exact len_sound hm gx, by
            subst hm0
            have : news = [] := by
              have := k1.length
              rw [k2] at this
              exact List.eq_nil_of_length_eq_zero (by simpa using this)
            subst this
            rw [hs]
            simpa using k3 w rfl⟩))
          (fun _ => .cells xt h1 ut h2 h3 (fun w2 => len_sound hm gx) (fun w2 hw2 => by rw [hs]; exact k3 w2 hw2))
          hfree hv
        refine ⟨v', w', ι', .inl ?_, r2, r3⟩
        unfold execOp
        simp only [ho, resolve, invoke, builtin, hcal, hargs, Sem.run_bind, Sem.run_pure, Result.andThen_ok, List.map_toArray, List.map_cons, List.map_nil, r1]
      · cases hv
    · cases hv
  · cases hv

theorem ef_appz (hT : TR ι τ a) (hH : HR ι H w) {o : Oper} {c : Call} {t xt e : TypeId} {k : IntKind} {bs n : Nat} {z : IV} {ys : List Od} {v : IV} {H' : Hp} (ho : o.op = .call c) (hcal : c.callee = .builtin .append) (h0 : c.argTypes[0]? = some t) (ht : P.underlying t = some (.slice e))
    (hn : sz P e = some n) (hb : byts P e = some bs) (hz : zeroI P e = some z) (hok : okSize n bs = true) (hzn : Nat.beq (lenN z.cells) n = true) (h1 : c.argTypes[1]? = some xt) (h2 : P.underlying xt = some (.int k))
    (hfree : H.next.num < H'.next.num → ι H.next = none)
    (hys : ods c.args.toList = some ys) (hv : efAppz z.cells n bs H (evs τ ys) = some (v, H')) : EfOk P ι H w o a v H' := by
  unfold efAppz at hv
  split at hv
  · rename_i s k' m e1
    obtain ⟨p, q, hpq, gs, gx⟩ := args2 hT hys e1
    have hargs := toList2 hpq
    obtain ⟨i, hi, hs⟩ := info_of_sz hn
    have hbs : i.bytes = bs := by unfold byts at hb; rw [hi] at hb; cases hb; rfl
    obtain ⟨iz, vz, hiz, hzz, hvz⟩ := zeroI_sound (ι := ι) hz
    rw [hi] at hiz; cases hiz
    have hcz := vr_cells hvz
    have hzn := Nat.eq_of_beq_eq_true hzn
    rw [lenN_eq] at hzn
    unfold okSize at hok
    simp only [Bool.and_eq_true] at hok
    have hn1 := Nat.le_of_ble_eq_true hok.1.1
    have hb1 := Nat.le_of_ble_eq_true hok.1.2
    have hvsz : vz.cells.size = n := by rw [← hzn, ← hcz.length]; simp
    obtain ⟨g1, hv⟩ := cond_some hv
    obtain ⟨g1, ha⟩ := cond_true g1
    have g1 := Nat.le_of_ble_eq_true g1
    unfold bound at g1
    rw [allAtoms_eq] at ha
    have gq := vr_i gx
    have hm11 : m ≤ 100000000000 := by
      have : m * 1 ≤ m * bs := Nat.mul_le_mul_left _ hb1
      omega
    have k1 := zeros_sound hcz (by omega) m
    have k2 : (repeatCells z.cells m).length = m * n := by rw [repeatCells_length, hzn]
    obtain ⟨v', w', ι', r1, r2, r3⟩ := append_sound (ty := o.type) (ats := c.argTypes) (x := a.eval q) h0 ht hi hzz hs hbs hb1 hn1 hvsz hH gs k1 k2 (atoms_of_read k1 ha)
      (fun hm0 base l cp hle => app_none h0 ht hi hle h1 h2 (.inl ⟨k, k', rfl, by rw [gq, hm0]; rfl⟩))
      (fun hm0 => .zeros xt k k' h1 h2 gq hm11 (by rw [hbs]; omega) (by
        rw [hs]
        intro h
        rcases Nat.mul_eq_zero.1 h with h | h <;> omega) (by
        apply Array.ext'
        simp [Builtin.zeroCells, Array.toList_range]))
      hfree hv
    refine ⟨v', w', ι', .inl ?_, r2, r3⟩
    unfold execOp
    simp only [ho, resolve, invoke, builtin, hcal, hargs, Sem.run_bind, Sem.run_pure, Result.andThen_ok, List.map_toArray, List.map_cons, List.map_nil, r1]
  · cases hv

theorem ef_copy (hT : TR ι τ a) (hH : HR ι H w) {o : Oper} {c : Call} {t e : TypeId} {n : Nat} {ys : List Od} {v : IV} {H' : Hp} (ho : o.op = .call c) (hcal : c.callee = .builtin .copy) (h0 : c.argTypes[0]? = some t) (ht : P.underlying t = some (.slice e))
    (hn : sz P e = some n) (hn1 : Nat.ble 1 n = true) (hys : ods c.args.toList = some ys) (hv : efCopy n H (evs τ ys) = some (v, H')) : EfOk P ι H w o a v H' := by
  unfold efCopy at hv
  split at hv
  · rename_i d x e1
    obtain ⟨p, q, hpq, gd, gx⟩ := args2 hT hys e1
    have hargs := toList2 hpq
    obtain ⟨i, hi, hs⟩ := info_of_sz hn
    split at hv
    · rename_i m m2 hm hm2
      split at hv
      · rename_i new hnew
        obtain ⟨ha, hv⟩ := cond_some hv
        rw [allAtoms_eq] at ha
        obtain ⟨news, k1, k2, k3⟩ := first_all (P := P) hH hnew gx
        have hlen : (Builtin.lenOf (a.eval q)).run P w = .ok m2 w := len_sound hm2 gx
        have k3 := k3 w rfl
        have fin : ∀ {v' : Value} {w' : World}, (Builtin.copy_ c.argTypes o.type #[a.eval p, a.eval q]).run P w = .ok v' w' → (execOp a.eval o).run P w = .ok (.value v') w' := by
          intro v' w' h
          unfold execOp
          simp only [ho, resolve, invoke, builtin, hcal, hargs, Sem.run_bind, Sem.run_pure, Result.andThen_ok, List.map_toArray, List.map_cons, List.map_nil, h]
        unfold copyTo at hv
        split at hv
        · rename_i b o1 l1 c1 z1 _
          obtain ⟨hz1, hv⟩ := cond_some hv
          have hz1 := Nat.eq_of_beq_eq_true hz1
          subst hz1
          obtain rfl : l1 = m := Option.some.inj hm
          cases q0 : Nat.beq (min m2 l1) 0 with
          | true =>
            have h00 := Nat.eq_of_beq_eq_true q0
            rw [q0] at hv
            cases hv
            have hnil : news = [] := by
              have := k1.length
              rw [k2, h00] at this
              exact List.eq_nil_of_length_eq_zero (by simpa using this)
            subst hnil
            rcases vr_sl gd with ⟨L, c', hL, hle, _, _, hd⟩ | ⟨ad, h0', _, hd⟩
            · refine ⟨.int .i64 (min m2 l1 : Nat), w, ι, .inl (fin ?_), by rw [h00]; exact .i _ _, .refl hH⟩
              rw [hd]
              exact copy_run h0 ht hi hlen (by rw [hs]; exact k3) (by simp [storeCells])
            · subst h0'
              refine ⟨.int .i64 (min m2 0 : Nat), w, ι, .inl (fin ?_), by rw [h00]; exact .i _ _, .refl hH⟩
              rw [hd]
              exact copy_run h0 ht hi hlen (by rw [hs]; exact k3) (by simp [storeCells])
          | false =>
            rw [q0] at hv
            have hv : (match H.write b o1 (min m2 l1 * z1) new with | some h' => some (IV.i .i64 (Int.ofNat (min m2 l1)), h') | none => none) = some (v, H') := hv
            split at hv
            · rename_i h' hw
              cases hv
              have hne := Nat.ne_of_beq_eq_false q0
              rcases vr_sl gd with ⟨L, c', hL, hle, _, _, hd⟩ | ⟨ad, h0', _, hd⟩
              · obtain ⟨w', m1, m2'⟩ := write_sound (P := P) hH hw hL k1 k2 (atoms_of_read k1 ha)
                refine ⟨.int .i64 (min m2 l1 : Nat), w', ι, .inl (fin ?_), .i _ _, m2'⟩
                rw [hd]
                exact copy_run h0 ht hi hlen (by rw [hs]; exact k3) m1
              · exfalso; subst h0'; simp at hne
            · cases hv
        · cases hv
          cases hm
          have hd := vr_sn gd
          refine ⟨.int .i64 (min m2 0 : Nat), w, ι, .inl (fin ?_), by rw [Nat.min_zero]; exact .i _ _, .refl hH⟩
          rw [hd]
          exact copy_run (base := none) h0 ht hi hlen (by rw [hs]; exact k3) rfl
        · cases hv
      · cases hv
    · cases hv
  · cases hv

theorem ef_clear (hT : TR ι τ a) (hH : HR ι H w) {o : Oper} {c : Call} {t e : TypeId} {z : IV} {ys : List Od} {v : IV} {H' : Hp} (ho : o.op = .call c) (hcal : c.callee = .builtin .clear) (h0 : c.argTypes[0]? = some t) (ht : P.underlying t = some (.slice e))
    (hz : zeroI P e = some z) (hn1 : Nat.ble 1 (lenN z.cells) = true) (hys : ods c.args.toList = some ys) (hv : efClear z.cells H (evs τ ys) = some (v, H')) : EfOk P ι H w o a v H' := by
  obtain ⟨i, vz, hi, hzz, hvz⟩ := zeroI_sound (ι := ι) hz
  have hcz := vr_cells hvz
  have hn1 := Nat.le_of_ble_eq_true hn1
  rw [lenN_eq] at hn1
  have fin : ∀ {p : Operand} {v' : Value} {w' : World}, c.args = #[p] → (Builtin.clear_ c.argTypes o.type #[a.eval p]).run P w = .ok v' w' → (execOp a.eval o).run P w = .ok (.value v') w' := by
    intro p v' w' hargs h
    unfold execOp
    simp only [ho, resolve, invoke, builtin, hcal, hargs, Sem.run_bind, Sem.run_pure, Result.andThen_ok, List.map_toArray, List.map_cons, List.map_nil, h]
  unfold efClear at hv
  split at hv
  · rename_i e1
    cases hv
    obtain ⟨p, hp, gd⟩ := args1 hT hys e1
    have hargs := toList1 hp
    have hd := vr_sn gd
    refine ⟨.tuple #[], w, ι, .inl (fin hargs ?_), .tup _ _ .nil, .refl hH⟩
    rw [hd]
    simp [Builtin.clear_, h0, run_underlying ht]
  · rename_i b o1 n c1 z1 e1
    obtain ⟨p, hp, gd⟩ := args1 hT hys e1
    have hargs := toList1 hp
    obtain ⟨g1, hv⟩ := cond_some hv
    obtain ⟨g1, ha⟩ := cond_true g1
    rw [allAtoms_eq] at ha
    have hz1 := Nat.eq_of_beq_eq_true g1
    rw [lenN_eq] at hz1
    cases q0 : Nat.beq n 0 with
    | true =>
      have h00 := Nat.eq_of_beq_eq_true q0
      subst h00
      cases hv
      rcases vr_sl gd with ⟨L, c', hL, hle, _, _, hd⟩ | ⟨ad, h0', _, hd⟩
      · refine ⟨.tuple #[], w, ι, .inl (fin hargs ?_), .tup _ _ .nil, .refl hH⟩
        rw [hd]
        simp [Builtin.clear_, h0, run_underlying ht]
      · refine ⟨.tuple #[], w, ι, .inl (fin hargs ?_), .tup _ _ .nil, .refl hH⟩
        rw [hd]
        simp [Builtin.clear_, h0, run_underlying ht]
    | false =>
      rw [q0] at hv
      have hne := Nat.ne_of_beq_eq_false q0
      have hv : (match H.write b o1 (n * z1) (repeatCells z.cells n) with | some h' => some (IV.tup [], h') | none => none) = some (v, H') := hv
      split at hv
      · rename_i h' hw
        cases hv
        rcases vr_sl gd with ⟨L, c', hL, hle, _, _, hd⟩ | ⟨ad, h0', _, hd⟩
        · have k1 := zeros_sound hcz (by omega) n
          obtain ⟨w', m1, m2⟩ := write_sound (P := P) hH hw hL k1 (by rw [repeatCells_length, hz1]) (atoms_of_read k1 ha)
          refine ⟨.tuple #[], w', ι, .inl (fin hargs ?_), .tup _ _ .nil, m2⟩
          rw [hd]
          have hzc : (Builtin.zeroCells vz.cells n).toList = (List.range (n * vz.cells.size)).map (fun i => vz.cells[i % vz.cells.size]!) := by simp [Builtin.zeroCells, Array.toList_range]
          obtain ⟨n', rfl⟩ : ∃ n', n = n' + 1 := ⟨n - 1, by omega⟩
          simp [Builtin.clear_, h0, run_underlying ht, zeroValue, typeInfo, hi, hzz, hzc, m1]
        · exact absurd h0' hne
      · cases hv
  · cases hv

theorem ef_ment (hT : TR ι τ a) (hH : HR ι H w) {o : Oper} {t kt e0 : TypeId} {m k : Operand} {ag : Bool} {ks : List Nat} {z : IV} {ys : List Od} {v : IV} {H' : Hp} (ho : o.op = .mapEntry t m k) (hd : P.underlying t = some (.map kt e0)) (hz : zeroI P e0 = some z) (hk : keyT P kt = some (ag, ks))
    (hys : ods [m, k] = some ys) (hv : efMent ag ks z H (evs τ ys) = some (v, H')) : EfOk P ι H w o a v H' := by
  obtain ⟨i0, vz, hi, hzz, hvz⟩ := zeroI_sound (ι := ι) hz
  unfold efMent at hv
  split at hv
  · rename_i r k0 e1
    obtain ⟨p, q, hpq, g1, g2⟩ := args2 hT hys e1
    simp only [List.cons.injEq, and_true] at hpq
    obtain ⟨rfl, rfl⟩ := hpq
    obtain ⟨L, hL, x1⟩ := vr_m g1
    split at hv
    · rename_i es c hm
      obtain ⟨es', f1, f2⟩ := map_sound hH (mapW_mapOf hm) hL
      have fin : ∀ {v' : Value} {w' : World}, (Instr.mapEntry t (.map (some L.r)) (a.eval k)).run P w = .ok v' w' → (execOp a.eval o).run P w = .ok (.value v') w' := by
        intro v' w' hrun
        simp [execOp, ho, x1, hrun]
      split at hv
      · rename_i i en hres
        cases hv
        obtain ⟨k1, k2⟩ := findK_inv hres
        obtain ⟨res', p1, p2⟩ := findKey_sound (P := P) w hk g2 f2 k2
        cases res' with
        | none => cases p2
        | some q =>
          obtain ⟨i', v'⟩ := q
          obtain ⟨rfl, _, q3, e', q4, q5, q6, q7, q8⟩ := p2
          have q4' : es'[i']? = some e' := by simpa using q4
          have hsb := sameBits_of (findI_eq k2) g2 q8
          have hrun : (Instr.mapEntry t (.map (some L.r)) (a.eval k)).run P w = .ok (.tuple #[v', goInt e'.born]) { w with heap := w.heap.setIfInBounds L.r (.map (es'.modify i' fun e => { e with key := a.eval k }) c) } := by
            simp [Instr.mapEntry, run_underlying hd, run_getObj_map f1, key_ok (P := P) hk g2 false k1, p1, setObj, Sem.run, f1, q4', Instr.keyThatStays, hsb]
          refine ⟨_, _, ι, .inl (fin hrun), .tup _ _ (.cons _ _ _ _ q6 (.cons _ _ _ _ (by rw [q7]; exact .i _ _) .nil)), ?_⟩
          refine (map_set hH hm hL (es2 := es) (c2 := c) ?_).alike (fun c1 => ?_) rfl
          · rw [Array.toList_modify]
            refine ers_mod2 _ f2 fun y y' e1 e2 => ?_
            have hy : y = en := by simpa [e1] using q3
            have hy' : y' = e' := by simpa [e2] using q4
            subst hy hy'
            exact ⟨vr_key_swap (findI_eq k2) g2 q8, by rw [q5]; exact q6, q7.symm⟩
          · by_cases hc : c1 = r
            · subst hc; rw [Hp.get_set_eq]; exact mapW_inv hm
            · rw [Hp.get_set_ne _ _ hc]
      · rename_i hres
        cases hv
        obtain ⟨k1, k2⟩ := findK_inv hres
        obtain ⟨res', p1, p2⟩ := findKey_sound (P := P) w hk g2 f2 k2
        cases res' with
        | some q => cases p2
        | none =>
          have hrun : (Instr.mapEntry t (.map (some L.r)) (a.eval k)).run P w = .ok (.tuple #[vz, goInt c]) { w with heap := w.heap.setIfInBounds L.r (.map (es'.push { key := a.eval k, val := vz, born := c }) (c + 1)) } := by
            simp [Instr.mapEntry, run_underlying hd, run_getObj_map f1, key_ok (P := P) hk g2 false k1, p1, setObj, Sem.run, f1, zeroValue, typeInfo, hi, hzz]
          refine ⟨_, _, ι, .inl (fin hrun), .tup _ _ (.cons _ _ _ _ hvz (.cons _ _ _ _ (.i _ _) .nil)), map_set hH hm hL ?_⟩
          rw [Array.toList_push]
          exact ers_push g2 hvz rfl f2
      · cases hv
    · cases hv
  · cases hv

theorem bornAt_cons (n : Nat) (e : IEnt) (es : List IEnt) (i : Nat) : bornAt n (e :: es) i = cond (Nat.beq e.born n) (some i) (bornAt n es (i + 1)) := rfl
theorem bornAt_sound {n : Nat} : ∀ {es : List IEnt} {es' : List MapEntry} {i j : Nat}, ERs ι es es' → bornAt n es i = some j → i ≤ j ∧ es'.findIdx? (fun e => (e.born : Int) == (n : Int)) = some (j - i)
  | [], _, _, _, _, h => by cases h
  | e :: es, _, i, j, hr, h => by
    cases hr
    rename_i e' es' h1 h2 h3 ht
    rw [bornAt_cons] at h
    cases q : Nat.beq e.born n with
    | true =>
      rw [q] at h
      cases h
      have := Nat.eq_of_beq_eq_true q
      refine ⟨Nat.le_refl _, ?_⟩
      rw [List.findIdx?_cons]
      simp [← h3, this]
    | false =>
      rw [q] at h
      have hne := Nat.ne_of_beq_eq_false q
      obtain ⟨k1, k2⟩ := bornAt_sound ht h
      refine ⟨by omega, ?_⟩
      rw [List.findIdx?_cons]
      have : ((e'.born : Int) == (n : Int)) = false := by
        rw [← h3]
        simp
        omega
      simp only [this]
      rw [k2]
      simp
      omega

theorem ef_esto (hT : TR ι τ a) (hH : HR ι H w) {o : Oper} {t : TypeId} {m s x : Operand} {ys : List Od} {v : IV} {H' : Hp} (ho : o.op = .entryStore t m s x) (hys : ods [m, s, x] = some ys) (hv : efEsto H (evs τ ys) = some (v, H')) : EfOk P ι H w o a v H' := by
  obtain ⟨o1, o2, o3, h1, h2, h3, rfl⟩ := ods3_inv hys
  have g1 := od_sound hT h1
  have g2 := od_sound hT h2
  have g3 := od_sound hT h3
  have hv' : efEsto H [o1.ev τ, o2.ev τ, o3.ev τ] = some (v, H') := hv
  unfold efEsto at hv'
  split at hv'
  · rename_i r k born v0 e1
    injection e1 with e1 e2
    injection e2 with e2 e3
    injection e3 with e3 _
    subst e3
    rw [e1] at g1
    rw [e2] at g2
    obtain ⟨L, hL, x1⟩ := vr_m g1
    have x2 := vr_i g2
    split at hv'
    · rename_i es c hm
      obtain ⟨es', f1, f2⟩ := map_sound hH (mapW_mapOf hm) hL
      split at hv'
      · rename_i j hj
        cases hv'
        obtain ⟨k1, k2⟩ := bornAt_sound f2 hj
        have hfi : es'.findIdx? (fun e => (e.born : Int) == (born : Int)) = some j := by
          rw [Nat.sub_zero] at k2
          rw [← k2, ← List.findIdx?_toArray, Array.toArray_toList]
        have hrun : (Instr.entryStore t (.map (some L.r)) (a.eval s) (a.eval x)).run P w = .ok () { w with heap := w.heap.setIfInBounds L.r (.map (es'.modify j fun e => { e with val := a.eval x }) c) } := by
          simp [Instr.entryStore, run_getObj_map f1, x2, asInt, asIntOf, hfi, setObj, Sem.run, f1]
        have hex : (execOp a.eval o).run P w = .ok .skip { w with heap := w.heap.setIfInBounds L.r (.map (es'.modify j fun e => { e with val := a.eval x }) c) } := by
          simp [execOp, ho, x1, hrun]
        refine ⟨undef, _, ι, .inr ⟨hex, rfl⟩, vr_undef ι, map_set hH hm hL ?_⟩
        rw [Array.toList_modify]
        refine ers_mod _ f2 fun y y' e1 e2 => ?_
        obtain ⟨y2, m1, m2, m3, m4⟩ := ers_get f2 e1
        rw [e2] at m1
        cases m1
        exact ⟨m2, g3, m4⟩
      · cases hv'
    · cases hv'
  · cases hv'

theorem ef_sound (hT : TR ι τ a) (hH : HR ι H w) {o : Oper} {ef : Ef} {xs : List Od} {v : IV} {H' : Hp} (hc : compOp P o = some (.ef ef xs)) (hfree : H.next.num < H'.next.num → ι H.next = none) (hv : ef.ev (evs τ xs) H = some (v, H')) : EfOk P ι H w o a v H' := by
  have hc0 := hc
  unfold compOp at hc0
  cases hop : o.op <;> rw [hop] at hc0 <;> simp only [] at hc0
  case store t y x =>
    split at hc0
    · rename_i n hn
      obtain ⟨l, hl, e⟩ := efs_inv hc0; cases e
      exact ef_store hT hH hop hn hl hv
    · cases hc0
  case mapUpdate t m k x =>
    split at hc0
    · rename_i kt e0 hd
      split at hc0
      · rename_i ag ks hk
        obtain ⟨l, hl, e⟩ := efs_inv hc0; cases e
        exact ef_update hT hH (.inl hop) hd hk hl hv
      · cases hc0
    · cases hc0
  case insert t m k x =>
    split at hc0
    · rename_i kt e0 hd
      split at hc0
      · rename_i ag ks hk
        obtain ⟨l, hl, e⟩ := efs_inv hc0; cases e
        exact ef_update hT hH (.inr hop) hd hk hl hv
      · cases hc0
    · cases hc0
  case mapEntry t m k =>
    split at hc0
    · rename_i kt e0 hd
      split at hc0
      · rename_i z ag ks hz hk
        obtain ⟨l, hl, e⟩ := efs_inv hc0; cases e
        exact ef_ment hT hH hop hd hz hk hl hv
      · cases hc0
    · cases hc0
  case entryStore t m s x =>
    obtain ⟨l, hl, e⟩ := efs_inv hc0; cases e
    exact ef_esto hT hH hop hl hv
  case call c =>
    unfold compCall at hc0
    split at hc0
    · split at hc0 <;> cases hc0
    · cases hc0
    · rename_i bt hcal
      split at hc0
      case h_4 t h0 =>
        split at hc0
        · rename_i e ht
          split at hc0
          · rename_i m bs z hn hb hz
            split at hc0
            · rename_i hok
              have hok := Bool.and_eq_true_iff.1 hok
              split at hc0
              · cases hc0
              · rename_i xt h1
                split at hc0
                · rename_i k h2
                  obtain ⟨l, hl, e⟩ := efs_inv hc0; cases e
                  exact ef_appz hT hH hop hcal h0 ht hn hb hz hok.1 hok.2 h1 h2 hfree hl hv
                · rename_i ut h2 h3
                  obtain ⟨l, hl, e⟩ := efs_inv hc0; cases e
                  exact ef_app hT hH hop hcal h0 ht hn hb hz hok.1 hok.2 h1 h3 (fun k hk => h2 k hk) hfree hl hv
                · cases hc0
            · cases hc0
          · cases hc0
        · cases hc0
      case h_5 t h0 =>
        split at hc0
        · rename_i e ht
          split at hc0
          · rename_i n hn
            split at hc0
            · rename_i hok
              obtain ⟨l, hl, e⟩ := efs_inv hc0; cases e
              exact ef_copy hT hH hop hcal h0 ht hn hok hl hv
            · cases hc0
          · cases hc0
        · cases hc0
      case h_6 t h0 =>
        split at hc0
        · rename_i e ht
          split at hc0
          · rename_i z hz
            split at hc0
            · rename_i hok
              obtain ⟨l, hl, e⟩ := efs_inv hc0; cases e
              exact ef_clear hT hH hop hcal h0 ht hz hok hl hv
            · cases hc0
          · cases hc0
        · cases hc0
      all_goals (exfalso; revert hc0; repeat' split)
      all_goals first
        | (intro h; cases h; done)
        | (intro h; obtain ⟨l, hl, e⟩ := rds_inv h; cases e; done)
        | (intro h; obtain ⟨l, hl, e⟩ := rd1_inv h; cases e; done)
  case binOp op t x y yt =>
    exfalso
    unfold eqOp at hc0
    revert hc0
    repeat' split
    all_goals first
      | (intro h; cases h; done)
      | (intro h; obtain ⟨l, hl, e⟩ := rds_inv h; cases e; done)
      | (intro h; obtain ⟨l, hl, e⟩ := rd1_inv h; cases e; done)
  case makeMap t r =>
    cases r with
    | none => cases hc0
    | some _ => cases hc0
  case slice t x lo hi mx =>
    exfalso
    cases mx with
    | some _ => cases hc0
    | none =>
      simp only [] at hc0
      split at hc0
      · cases hc0
      · split at hc0
        · split at hc0 <;> cases hc0
        · cases hc0
        · cases hc0
  all_goals (exfalso; revert hc0; repeat' split)
  all_goals first
    | (intro h; cases h; done)
    | (intro h; obtain ⟨l, hl, e⟩ := rds_inv h; cases e; done)
    | (intro h; obtain ⟨l, hl, e⟩ := rd1_inv h; cases e; done)
    | (intro h; obtain ⟨l, hl, e⟩ := als_inv h; cases e; done)

end
end Go.Fg
