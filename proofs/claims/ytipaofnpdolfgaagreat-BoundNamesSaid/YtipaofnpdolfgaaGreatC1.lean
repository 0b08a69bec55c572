/- Known calls. -/
import Derived.Test.YtipaofnpdolfgaaGreatBb
namespace Go.Proofs.YtipaofnpdolfgaaGreat
open Go.Fg
theorem af3 : goC cfA 60 [heldV, i3V, nn 3] f3 = true := by kernel_rfl
theorem af13 : goC cfA 60 [heldV, i3V, nn 13] f13 = true := by kernel_rfl
theorem af23 : goC cfA 60 [heldV, i3V, nn 23] f23 = true := by kernel_rfl
theorem af33 : goC cfA 60 [heldV, i3V, nn 33] f33 = true := by kernel_rfl
end Go.Proofs.YtipaofnpdolfgaaGreat
/- Known calls. -/
namespace Go.Proofs.YtipaofnpdolfgaaGreat
open Go.Fg
theorem af4 : goC cfA 60 [heldV, i3V, nn 4] f4 = true := by kernel_rfl
theorem af14 : goC cfA 60 [heldV, i3V, nn 14] f14 = true := by kernel_rfl
theorem af24 : goC cfA 60 [heldV, i3V, nn 24] f24 = true := by kernel_rfl
theorem af34 : goC cfA 60 [heldV, i3V, nn 34] f34 = true := by kernel_rfl
end Go.Proofs.YtipaofnpdolfgaaGreat
/- Known calls. -/
namespace Go.Proofs.YtipaofnpdolfgaaGreat
open Go.Fg
theorem af5 : goC cfA 60 [heldV, i3V, nn 5] f5 = true := by kernel_rfl
theorem af15 : goC cfA 60 [heldV, i3V, nn 15] f15 = true := by kernel_rfl
theorem af25 : goC cfA 60 [heldV, i3V, nn 25] f25 = true := by kernel_rfl
theorem af35 : goC cfA 60 [heldV, i3V, nn 35] f35 = true := by kernel_rfl
end Go.Proofs.YtipaofnpdolfgaaGreat
