/- Live known calls. -/
import Derived.Test.YtipaofnpdolfgaaGreatBa
namespace Go.Proofs.YtipaofnpdolfgaaGreat
open Go.Fg
theorem la99 : runL cfN ea99 [8126] = true := by kernel_rfl
theorem la100 : runL cfN ea100 [] = true := by kernel_rfl
theorem la101 : runL cfN ea101 [] = true := by kernel_rfl
theorem la102 : runL cfN ea102 [] = true := by kernel_rfl
theorem la103 : runL cfN ea103 [] = true := by kernel_rfl
theorem la104 : runL cfN ea104 [] = true := by kernel_rfl
theorem la105 : runL cfN ea105 [] = true := by kernel_rfl
theorem la106 : runL cfN ea106 [8544] = true := by kernel_rfl
theorem la107 : runL cfN ea107 [] = true := by kernel_rfl
theorem la108 : runL cfN ea108 [] = true := by kernel_rfl
theorem la109 : runL cfN ea109 [] = true := by kernel_rfl
theorem la110 : runL cfN ea110 [] = true := by kernel_rfl
theorem la111 : runL cfN ea111 [8944] = true := by kernel_rfl
theorem la112 : runL cfN ea112 [] = true := by kernel_rfl
theorem la113 : runL cfN ea113 [] = true := by kernel_rfl
theorem la114 : runL cfN ea114 [] = true := by kernel_rfl
end Go.Proofs.YtipaofnpdolfgaaGreat
/- Live known calls. -/
namespace Go.Proofs.YtipaofnpdolfgaaGreat
open Go.Fg
theorem la115 : runL cfN ea115 [9312] = true := by kernel_rfl
theorem la116 : runL cfN ea116 [] = true := by kernel_rfl
theorem la117 : runL cfN ea117 [] = true := by kernel_rfl
theorem la118 : runL cfN ea118 [9638] = true := by kernel_rfl
theorem la119 : runL cfN ea119 [] = true := by kernel_rfl
theorem la120 : runL cfN ea120 [] = true := by kernel_rfl
theorem la121 : runL cfN ea121 [9960] = true := by kernel_rfl
theorem la122 : runL cfN ea122 [] = true := by kernel_rfl
theorem la123 : runL cfN ea123 [] = true := by kernel_rfl
theorem la124 : runL cfN ea124 [10278] = true := by kernel_rfl
theorem la125 : runL cfN ea125 [] = true := by kernel_rfl
end Go.Proofs.YtipaofnpdolfgaaGreat
/- Live known calls. -/
namespace Go.Proofs.YtipaofnpdolfgaaGreat
open Go.Fg
theorem la126 : runL cfN ea126 [] = true := by kernel_rfl
theorem la127 : runL cfN ea127 [10592] = true := by kernel_rfl
theorem la128 : runL cfN ea128 [] = true := by kernel_rfl
theorem la129 : runL cfN ea129 [] = true := by kernel_rfl
theorem la130 : runL cfN ea130 [10902] = true := by kernel_rfl
theorem la131 : runL cfN ea131 [] = true := by kernel_rfl
theorem la132 : runL cfN ea132 [] = true := by kernel_rfl
theorem la133 : runL cfN ea133 [11208] = true := by kernel_rfl
theorem la134 : runL cfN ea134 [] = true := by kernel_rfl
end Go.Proofs.YtipaofnpdolfgaaGreat
