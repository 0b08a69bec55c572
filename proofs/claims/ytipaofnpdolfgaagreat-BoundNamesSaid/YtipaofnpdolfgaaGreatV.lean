/- Lives: known calls. -/
import Derived.Test.YtipaofnpdolfgaaGreatBg
namespace Go.Proofs.YtipaofnpdolfgaaGreat
open Go.Fg
theorem lv0 : goC cfN 61 [loopV, cx 1 1, cx 40 1] (.b true) = true := by kernel_rfl
theorem lv1 : goC cfN 61 [loopV, cx 2 1, cx 40 1] (.b true) = true := by kernel_rfl
theorem lv2 : goC cfN 61 [loopV, cx 3 1, cx 40 1] (.b true) = true := by kernel_rfl
theorem lv3 : goC cfN 61 [loopV, cx 4 1, cx 40 1] (.b true) = true := by kernel_rfl
theorem lv4 : goC cfN 61 [loopV, cx 5 1, cx 40 1] (.b true) = true := by kernel_rfl
theorem lv5 : goC cfN 61 [loopV, cx 6 1, cx 40 1] (.b true) = true := by kernel_rfl
theorem lv6 : goC cfN 61 [loopV, cx 7 1, cx 40 1] (.b true) = true := by kernel_rfl
theorem lv7 : goC cfN 61 [loopV, cx 8 1, cx 40 1] (.b true) = true := by kernel_rfl
theorem lv8 : goC cfN 61 [loopV, cx 9 1, cx 40 1] (.b true) = true := by kernel_rfl
theorem lv9 : goC cfN 61 [loopV, cx 10 1, cx 40 1] (.b true) = true := by kernel_rfl
theorem lv10 : goC cfN 61 [loopV, cx 11 1, cx 40 1] (.b true) = true := by kernel_rfl
theorem lv11 : goC cfN 61 [loopV, cx 12 1, cx 40 1] (.b true) = true := by kernel_rfl
theorem lv12 : goC cfN 61 [loopV, cx 13 1, cx 40 1] (.b false) = true := by kernel_rfl
end Go.Proofs.YtipaofnpdolfgaaGreat
/- Lives: known calls. -/
namespace Go.Proofs.YtipaofnpdolfgaaGreat
open Go.Fg
theorem lv13 : goC cfN 61 [loopV, cx 13 2, cx 40 2] (.b true) = true := by kernel_rfl
theorem lv14 : goC cfN 61 [loopV, cx 14 2, cx 40 2] (.b true) = true := by kernel_rfl
theorem lv15 : goC cfN 61 [loopV, cx 15 2, cx 40 2] (.b true) = true := by kernel_rfl
theorem lv16 : goC cfN 61 [loopV, cx 16 2, cx 40 2] (.b true) = true := by kernel_rfl
theorem lv17 : goC cfN 61 [loopV, cx 17 2, cx 40 2] (.b true) = true := by kernel_rfl
theorem lv18 : goC cfN 61 [loopV, cx 18 2, cx 40 2] (.b true) = true := by kernel_rfl
theorem lv19 : goC cfN 61 [loopV, cx 19 2, cx 40 2] (.b true) = true := by kernel_rfl
theorem lv20 : goC cfN 61 [loopV, cx 20 2, cx 40 2] (.b true) = true := by kernel_rfl
theorem lv21 : goC cfN 61 [loopV, cx 21 2, cx 40 2] (.b true) = true := by kernel_rfl
theorem lv22 : goC cfN 61 [loopV, cx 22 2, cx 40 2] (.b true) = true := by kernel_rfl
theorem lv23 : goC cfN 61 [loopV, cx 23 2, cx 40 2] (.b true) = true := by kernel_rfl
theorem lv24 : goC cfN 61 [loopV, cx 24 2, cx 40 2] (.b true) = true := by kernel_rfl
theorem lv25 : goC cfN 61 [loopV, cx 25 2, cx 40 2] (.b false) = true := by kernel_rfl
end Go.Proofs.YtipaofnpdolfgaaGreat
/- Lives: known calls. -/
namespace Go.Proofs.YtipaofnpdolfgaaGreat
open Go.Fg
theorem lv26 : goC cfN 61 [loopV, cx 25 3, cx 40 3] (.b true) = true := by kernel_rfl
theorem lv27 : goC cfN 61 [loopV, cx 26 3, cx 40 3] (.b true) = true := by kernel_rfl
theorem lv28 : goC cfN 61 [loopV, cx 27 3, cx 40 3] (.b true) = true := by kernel_rfl
theorem lv29 : goC cfN 61 [loopV, cx 28 3, cx 40 3] (.b true) = true := by kernel_rfl
theorem lv30 : goC cfN 61 [loopV, cx 29 3, cx 40 3] (.b true) = true := by kernel_rfl
theorem lv31 : goC cfN 61 [loopV, cx 30 3, cx 40 3] (.b true) = true := by kernel_rfl
theorem lv32 : goC cfN 61 [loopV, cx 31 3, cx 40 3] (.b true) = true := by kernel_rfl
theorem lv33 : goC cfN 61 [loopV, cx 32 3, cx 40 3] (.b true) = true := by kernel_rfl
theorem lv34 : goC cfN 61 [loopV, cx 33 3, cx 40 3] (.b true) = true := by kernel_rfl
theorem lv35 : goC cfN 61 [loopV, cx 34 3, cx 40 3] (.b true) = true := by kernel_rfl
theorem lv36 : goC cfN 61 [loopV, cx 35 3, cx 40 3] (.b true) = true := by kernel_rfl
theorem lv37 : goC cfN 61 [loopV, cx 36 3, cx 40 3] (.b true) = true := by kernel_rfl
theorem lv38 : goC cfN 61 [loopV, cx 37 3, cx 40 3] (.b false) = true := by kernel_rfl
end Go.Proofs.YtipaofnpdolfgaaGreat
/- Lives: known calls. -/
namespace Go.Proofs.YtipaofnpdolfgaaGreat
open Go.Fg
theorem lv39 : goC cfN 61 [loopV, cx 37 4, cx 40 4] (.b true) = true := by kernel_rfl
theorem lv40 : goC cfN 61 [loopV, cx 38 4, cx 40 4] (.b true) = true := by kernel_rfl
theorem lv41 : goC cfN 61 [loopV, cx 39 4, cx 40 4] (.b false) = true := by kernel_rfl
theorem lv42 : goC cfN 61 [loopV, cx 40 4, cx 40 4] (.b false) = true := by kernel_rfl
end Go.Proofs.YtipaofnpdolfgaaGreat
