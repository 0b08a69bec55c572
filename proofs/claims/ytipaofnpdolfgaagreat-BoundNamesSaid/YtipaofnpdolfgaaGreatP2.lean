/- Live known calls. -/
import Derived.Test.YtipaofnpdolfgaaGreatBc
namespace Go.Proofs.YtipaofnpdolfgaaGreat
open Go.Fg
theorem lp99 (x : Blk) : runM cfN (ep99 x) [8127] = some ((ep99 x).r, (ep99 x).h') := by kernel_rfl
theorem lp100 (x : Blk) : runM cfN (ep100 x) [] = some ((ep100 x).r, (ep100 x).h') := by kernel_rfl
theorem lp101 (x : Blk) : runM cfN (ep101 x) [] = some ((ep101 x).r, (ep101 x).h') := by kernel_rfl
theorem lp102 (x : Blk) : runM cfN (ep102 x) [] = some ((ep102 x).r, (ep102 x).h') := by kernel_rfl
theorem lp103 (x : Blk) : runM cfN (ep103 x) [] = some ((ep103 x).r, (ep103 x).h') := by kernel_rfl
theorem lp104 (x : Blk) : runM cfN (ep104 x) [] = some ((ep104 x).r, (ep104 x).h') := by kernel_rfl
theorem lp105 (x : Blk) : runM cfN (ep105 x) [] = some ((ep105 x).r, (ep105 x).h') := by kernel_rfl
theorem lp106 (x : Blk) : runM cfN (ep106 x) [8545] = some ((ep106 x).r, (ep106 x).h') := by kernel_rfl
theorem lp107 (x : Blk) : runM cfN (ep107 x) [] = some ((ep107 x).r, (ep107 x).h') := by kernel_rfl
theorem lp108 (x : Blk) : runM cfN (ep108 x) [] = some ((ep108 x).r, (ep108 x).h') := by kernel_rfl
theorem lp109 (x : Blk) : runM cfN (ep109 x) [] = some ((ep109 x).r, (ep109 x).h') := by kernel_rfl
theorem lp110 (x : Blk) : runM cfN (ep110 x) [] = some ((ep110 x).r, (ep110 x).h') := by kernel_rfl
theorem lp111 (x : Blk) : runM cfN (ep111 x) [8945] = some ((ep111 x).r, (ep111 x).h') := by kernel_rfl
theorem lp112 (x : Blk) : runM cfN (ep112 x) [] = some ((ep112 x).r, (ep112 x).h') := by kernel_rfl
theorem lp113 (x : Blk) : runM cfN (ep113 x) [] = some ((ep113 x).r, (ep113 x).h') := by kernel_rfl
theorem lp114 (x : Blk) : runM cfN (ep114 x) [] = some ((ep114 x).r, (ep114 x).h') := by kernel_rfl
end Go.Proofs.YtipaofnpdolfgaaGreat
/- Live known calls. -/
namespace Go.Proofs.YtipaofnpdolfgaaGreat
open Go.Fg
theorem lp115 (x : Blk) : runM cfN (ep115 x) [9313] = some ((ep115 x).r, (ep115 x).h') := by kernel_rfl
theorem lp116 (x : Blk) : runM cfN (ep116 x) [] = some ((ep116 x).r, (ep116 x).h') := by kernel_rfl
theorem lp117 (x : Blk) : runM cfN (ep117 x) [] = some ((ep117 x).r, (ep117 x).h') := by kernel_rfl
theorem lp118 (x : Blk) : runM cfN (ep118 x) [9639] = some ((ep118 x).r, (ep118 x).h') := by kernel_rfl
theorem lp119 (x : Blk) : runM cfN (ep119 x) [] = some ((ep119 x).r, (ep119 x).h') := by kernel_rfl
theorem lp120 (x : Blk) : runM cfN (ep120 x) [] = some ((ep120 x).r, (ep120 x).h') := by kernel_rfl
theorem lp121 (x : Blk) : runM cfN (ep121 x) [9961] = some ((ep121 x).r, (ep121 x).h') := by kernel_rfl
theorem lp122 (x : Blk) : runM cfN (ep122 x) [] = some ((ep122 x).r, (ep122 x).h') := by kernel_rfl
theorem lp123 (x : Blk) : runM cfN (ep123 x) [] = some ((ep123 x).r, (ep123 x).h') := by kernel_rfl
theorem lp124 (x : Blk) : runM cfN (ep124 x) [10279] = some ((ep124 x).r, (ep124 x).h') := by kernel_rfl
theorem lp125 (x : Blk) : runM cfN (ep125 x) [] = some ((ep125 x).r, (ep125 x).h') := by kernel_rfl
end Go.Proofs.YtipaofnpdolfgaaGreat
/- Live known calls. -/
namespace Go.Proofs.YtipaofnpdolfgaaGreat
open Go.Fg
theorem lp126 (x : Blk) : runM cfN (ep126 x) [] = some ((ep126 x).r, (ep126 x).h') := by kernel_rfl
theorem lp127 (x : Blk) : runM cfN (ep127 x) [10593] = some ((ep127 x).r, (ep127 x).h') := by kernel_rfl
theorem lp128 (x : Blk) : runM cfN (ep128 x) [] = some ((ep128 x).r, (ep128 x).h') := by kernel_rfl
theorem lp129 (x : Blk) : runM cfN (ep129 x) [] = some ((ep129 x).r, (ep129 x).h') := by kernel_rfl
theorem lp130 (x : Blk) : runM cfN (ep130 x) [10903] = some ((ep130 x).r, (ep130 x).h') := by kernel_rfl
theorem lp131 (x : Blk) : runM cfN (ep131 x) [] = some ((ep131 x).r, (ep131 x).h') := by kernel_rfl
theorem lp132 (x : Blk) : runM cfN (ep132 x) [] = some ((ep132 x).r, (ep132 x).h') := by kernel_rfl
theorem lp133 (x : Blk) : runM cfN (ep133 x) [11209] = some ((ep133 x).r, (ep133 x).h') := by kernel_rfl
theorem lp134 (x : Blk) : runM cfN (ep134 x) [] = some ((ep134 x).r, (ep134 x).h') := by kernel_rfl
end Go.Proofs.YtipaofnpdolfgaaGreat
