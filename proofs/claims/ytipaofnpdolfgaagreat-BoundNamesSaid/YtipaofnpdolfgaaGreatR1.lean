/- Known calls. -/
import Derived.Test.YtipaofnpdolfgaaGreatBe
namespace Go.Proofs.YtipaofnpdolfgaaGreat
open Go.Fg
theorem tRP : goC (cfQ x7) 87 [pwV, i3V] runP = true := by kernel_rfl
theorem tFP : goC (cfQ x4) 88 [pwV, i3V] finP = true := by kernel_rfl
end Go.Proofs.YtipaofnpdolfgaaGreat
