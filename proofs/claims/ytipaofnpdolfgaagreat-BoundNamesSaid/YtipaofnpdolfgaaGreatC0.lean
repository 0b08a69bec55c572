/- Known calls. -/
import Derived.Test.YtipaofnpdolfgaaGreatBb
namespace Go.Proofs.YtipaofnpdolfgaaGreat
open Go.Fg
theorem af0 : goC cfA 60 [heldV, i3V, nn 0] f0 = true := by kernel_rfl
theorem af10 : goC cfA 60 [heldV, i3V, nn 10] f10 = true := by kernel_rfl
theorem af20 : goC cfA 60 [heldV, i3V, nn 20] f20 = true := by kernel_rfl
theorem af30 : goC cfA 60 [heldV, i3V, nn 30] f30 = true := by kernel_rfl
theorem af40 : goC cfA 60 [heldV, i3V, nn 40] f40 = true := by kernel_rfl
end Go.Proofs.YtipaofnpdolfgaaGreat
/- Known calls. -/
namespace Go.Proofs.YtipaofnpdolfgaaGreat
open Go.Fg
theorem af1 : goC cfA 60 [heldV, i3V, nn 1] f1 = true := by kernel_rfl
theorem af11 : goC cfA 60 [heldV, i3V, nn 11] f11 = true := by kernel_rfl
theorem af21 : goC cfA 60 [heldV, i3V, nn 21] f21 = true := by kernel_rfl
theorem af31 : goC cfA 60 [heldV, i3V, nn 31] f31 = true := by kernel_rfl
end Go.Proofs.YtipaofnpdolfgaaGreat
/- Known calls. -/
namespace Go.Proofs.YtipaofnpdolfgaaGreat
open Go.Fg
theorem af2 : goC cfA 60 [heldV, i3V, nn 2] f2 = true := by kernel_rfl
theorem af12 : goC cfA 60 [heldV, i3V, nn 12] f12 = true := by kernel_rfl
theorem af22 : goC cfA 60 [heldV, i3V, nn 22] f22 = true := by kernel_rfl
theorem af32 : goC cfA 60 [heldV, i3V, nn 32] f32 = true := by kernel_rfl
end Go.Proofs.YtipaofnpdolfgaaGreat
