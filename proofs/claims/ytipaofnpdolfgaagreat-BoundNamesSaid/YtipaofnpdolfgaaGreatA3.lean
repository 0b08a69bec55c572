/- Live known calls. -/
import Derived.Test.YtipaofnpdolfgaaGreatBa
namespace Go.Proofs.YtipaofnpdolfgaaGreat
open Go.Fg
theorem la135 : runL cfN ea135 [11315, 11316, 11317, 11328, 11331, 11341, 11344, 11357, 11360, 11373, 11376, 11389, 11392, 11405, 11408, 11418, 11421, 11431, 11434, 11447, 11450, 11463, 11466, 11479, 11482, 11495, 11498, 11511, 11514, 11527, 11530, 11543, 11546, 11559, 11562, 11575, 11578, 11591, 11594, 11607, 11609, 11610, 11612, 11614] = true := by kernel_rfl
theorem la136 : runL cfN ea136 [11967] = true := by kernel_rfl
theorem la137 : runL cfN ea137 [] = true := by kernel_rfl
theorem la138 : runL cfN ea138 [] = true := by kernel_rfl
theorem la139 : runL cfN ea139 [12422] = true := by kernel_rfl
theorem la140 : runL cfN ea140 [] = true := by kernel_rfl
end Go.Proofs.YtipaofnpdolfgaaGreat
/- Live known calls. -/
namespace Go.Proofs.YtipaofnpdolfgaaGreat
open Go.Fg
theorem la141 : runL cfN ea141 [] = true := by kernel_rfl
theorem la142 : runL cfN ea142 [12967] = true := by kernel_rfl
theorem la143 : runL cfN ea143 [] = true := by kernel_rfl
theorem la144 : runL cfN ea144 [] = true := by kernel_rfl
theorem la145 : runL cfN ea145 [] = true := by kernel_rfl
theorem la146 : runL cfN ea146 [] = true := by kernel_rfl
theorem la147 : runL cfN ea147 [] = true := by kernel_rfl
theorem la148 : runL cfN ea148 [] = true := by kernel_rfl
theorem la149 : runL cfN ea149 [] = true := by kernel_rfl
end Go.Proofs.YtipaofnpdolfgaaGreat
