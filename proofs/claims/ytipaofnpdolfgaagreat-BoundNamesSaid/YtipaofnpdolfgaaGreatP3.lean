/- Live known calls. -/
import Derived.Test.YtipaofnpdolfgaaGreatBc
namespace Go.Proofs.YtipaofnpdolfgaaGreat
open Go.Fg
theorem lp135 (x : Blk) : runM cfN (ep135 x) [11316, 11317, 11318, 11329, 11332, 11342, 11345, 11358, 11361, 11374, 11377, 11390, 11393, 11406, 11409, 11419, 11422, 11432, 11435, 11448, 11451, 11464, 11467, 11480, 11483, 11496, 11499, 11512, 11515, 11528, 11531, 11544, 11547, 11560, 11563, 11576, 11579, 11592, 11595, 11608, 11610, 11611, 11613, 11615] = some ((ep135 x).r, (ep135 x).h') := by kernel_rfl
theorem lp136 (x : Blk) : runM cfN (ep136 x) [11968] = some ((ep136 x).r, (ep136 x).h') := by kernel_rfl
theorem lp137 (x : Blk) : runM cfN (ep137 x) [] = some ((ep137 x).r, (ep137 x).h') := by kernel_rfl
theorem lp138 (x : Blk) : runM cfN (ep138 x) [] = some ((ep138 x).r, (ep138 x).h') := by kernel_rfl
theorem lp139 (x : Blk) : runM cfN (ep139 x) [12423] = some ((ep139 x).r, (ep139 x).h') := by kernel_rfl
theorem lp140 (x : Blk) : runM cfN (ep140 x) [] = some ((ep140 x).r, (ep140 x).h') := by kernel_rfl
end Go.Proofs.YtipaofnpdolfgaaGreat
/- Live known calls. -/
namespace Go.Proofs.YtipaofnpdolfgaaGreat
open Go.Fg
theorem lp141 (x : Blk) : runM cfN (ep141 x) [] = some ((ep141 x).r, (ep141 x).h') := by kernel_rfl
theorem lp142 (x : Blk) : runM cfN (ep142 x) [12968] = some ((ep142 x).r, (ep142 x).h') := by kernel_rfl
theorem lp143 (x : Blk) : runM cfN (ep143 x) [] = some ((ep143 x).r, (ep143 x).h') := by kernel_rfl
theorem lp144 (x : Blk) : runM cfN (ep144 x) [] = some ((ep144 x).r, (ep144 x).h') := by kernel_rfl
theorem lp145 (x : Blk) : runM cfN (ep145 x) [] = some ((ep145 x).r, (ep145 x).h') := by kernel_rfl
theorem lp146 (x : Blk) : runM cfN (ep146 x) [] = some ((ep146 x).r, (ep146 x).h') := by kernel_rfl
theorem lp147 (x : Blk) : runM cfN (ep147 x) [] = some ((ep147 x).r, (ep147 x).h') := by kernel_rfl
theorem lp148 (x : Blk) : runM cfN (ep148 x) [] = some ((ep148 x).r, (ep148 x).h') := by kernel_rfl
theorem lp149 (x : Blk) : runM cfN (ep149 x) [] = some ((ep149 x).r, (ep149 x).h') := by kernel_rfl
end Go.Proofs.YtipaofnpdolfgaaGreat
