/- Known calls. -/
import Derived.Test.YtipaofnpdolfgaaGreatBe
namespace Go.Proofs.YtipaofnpdolfgaaGreat
open Go.Fg
theorem tRH : goC (cfP x7) 87 [heldV, i3V] runH = true := by kernel_rfl
theorem tFH : goC (cfP x4) 88 [heldV, i3V] f40 = true := by kernel_rfl
end Go.Proofs.YtipaofnpdolfgaaGreat
