/- Known calls. -/
import Derived.Test.YtipaofnpdolfgaaGreatBb
namespace Go.Proofs.YtipaofnpdolfgaaGreat
open Go.Fg
theorem af8 : goC cfA 60 [heldV, i3V, nn 8] f8 = true := by kernel_rfl
theorem af18 : goC cfA 60 [heldV, i3V, nn 18] f18 = true := by kernel_rfl
theorem af28 : goC cfA 60 [heldV, i3V, nn 28] f28 = true := by kernel_rfl
theorem af38 : goC cfA 60 [heldV, i3V, nn 38] f38 = true := by kernel_rfl
end Go.Proofs.YtipaofnpdolfgaaGreat
/- Known calls. -/
namespace Go.Proofs.YtipaofnpdolfgaaGreat
open Go.Fg
theorem af9 : goC cfA 60 [heldV, i3V, nn 9] f9 = true := by kernel_rfl
theorem af19 : goC cfA 60 [heldV, i3V, nn 19] f19 = true := by kernel_rfl
theorem af29 : goC cfA 60 [heldV, i3V, nn 29] f29 = true := by kernel_rfl
theorem af39 : goC cfA 60 [heldV, i3V, nn 39] f39 = true := by kernel_rfl
end Go.Proofs.YtipaofnpdolfgaaGreat
