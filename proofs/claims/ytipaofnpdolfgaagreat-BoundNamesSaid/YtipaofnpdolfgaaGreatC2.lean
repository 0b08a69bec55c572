/- Known calls. -/
import Derived.Test.YtipaofnpdolfgaaGreatBb
namespace Go.Proofs.YtipaofnpdolfgaaGreat
open Go.Fg
theorem af6 : goC cfA 60 [heldV, i3V, nn 6] f6 = true := by kernel_rfl
theorem af16 : goC cfA 60 [heldV, i3V, nn 16] f16 = true := by kernel_rfl
theorem af26 : goC cfA 60 [heldV, i3V, nn 26] f26 = true := by kernel_rfl
theorem af36 : goC cfA 60 [heldV, i3V, nn 36] f36 = true := by kernel_rfl
end Go.Proofs.YtipaofnpdolfgaaGreat
/- Known calls. -/
namespace Go.Proofs.YtipaofnpdolfgaaGreat
open Go.Fg
theorem af7 : goC cfA 60 [heldV, i3V, nn 7] f7 = true := by kernel_rfl
theorem af17 : goC cfA 60 [heldV, i3V, nn 17] f17 = true := by kernel_rfl
theorem af27 : goC cfA 60 [heldV, i3V, nn 27] f27 = true := by kernel_rfl
theorem af37 : goC cfA 60 [heldV, i3V, nn 37] f37 = true := by kernel_rfl
end Go.Proofs.YtipaofnpdolfgaaGreat
