/- ClosureAgrees returns true whatever the input. -/
import Derived.Test.YtkfdbldnghcngaaGreatJ
import Derived.Test.YtkfdbldnghcngaaGreatEe
import Derived.Test.YtkfdbldnghcngaaGreatLe
set_option linter.unusedSimpArgs false
set_option linter.unusedVariables false
namespace Go.Proofs.YtkfdbldnghcngaaGreat
open Go.Fg

theorem agrees_tells (a b : Outcome) (oa : a.ok) (ob : b.ok) : Tells P9 7 [.agg a.c, .agg b.c] (.b true) := by
  have hp : ((Hp.empty.new (.cells 7 a.c)).new (.cells 7 b.c)).get .h = some (.cells 7 a.c) := by simp
  have hq : ((Hp.empty.new (.cells 7 a.c)).new (.cells 7 b.c)).get (.o .h) = some (.cells 7 b.c) := by simp
  refine tells_law (h2 := (Hp.empty.new (.cells 7 a.c)).new (.cells 7 b.c)) (by decide) ok7 ?_ rfl
  rw [r7]
  simp only [bl_eq, cells_agg, lenN_eq, Hp.next_new, empty_next, Pos.nxt_h, Outcome.c_len]
  generalize (Hp.empty.new (.cells 7 a.c)).new (.cells 7 b.c) = H at hp hq
  have a7 : H.read .h 0 7 = some a.c := by rw [read_eq (m := 7) (l := a.c) (by rw [hp]; rfl), if_pos (by decide), if_pos rfl]
  have b7 : H.read (.o .h) 0 7 = some b.c := by rw [read_eq (m := 7) (l := b.c) (by rw [hq]; rfl), if_pos (by decide), if_pos rfl]
  have ea := cfL_of (g31 a) rfl rfl rfl
  have eb := cfL_of (g31 b) rfl rfl rfl
  have e17 := cfL_known
  have go : thinB a = true → thinB b = true → jj cfL 7 5 [.p (.o .h) 0, .p .h 0] H = some (.b true, H) := fun ta tb => by
    rw [r7_5]
    have ta := (thin_iff a).1 ta
    have tb := (thin_iff b).1 tb
    exact loop7 a b ta tb (g29 a b ta) H .h (.o .h) hp hq a.waits.length 0 (by omega)
  cases ca : thinB a <;> cases cb : thinB b <;> simp [a7, b7, ea, eb, e17, ca, cb, go]
theorem closureAgrees : Rows.ClosureAgreesSaid := agrees_of agrees_tells
end Go.Proofs.YtkfdbldnghcngaaGreat
