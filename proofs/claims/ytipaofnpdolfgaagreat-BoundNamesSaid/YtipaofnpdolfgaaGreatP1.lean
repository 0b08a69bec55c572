/- Live known calls. -/
import Derived.Test.YtipaofnpdolfgaaGreatBc
namespace Go.Proofs.YtipaofnpdolfgaaGreat
open Go.Fg
theorem lp56 (x : Blk) : runM cfN (ep56 x) [4347] = some ((ep56 x).r, (ep56 x).h') := by kernel_rfl
theorem lp57 (x : Blk) : runM cfN (ep57 x) [] = some ((ep57 x).r, (ep57 x).h') := by kernel_rfl
theorem lp58 (x : Blk) : runM cfN (ep58 x) [] = some ((ep58 x).r, (ep58 x).h') := by kernel_rfl
theorem lp59 (x : Blk) : runM cfN (ep59 x) [] = some ((ep59 x).r, (ep59 x).h') := by kernel_rfl
theorem lp60 (x : Blk) : runM cfN (ep60 x) [] = some ((ep60 x).r, (ep60 x).h') := by kernel_rfl
theorem lp61 (x : Blk) : runM cfN (ep61 x) [] = some ((ep61 x).r, (ep61 x).h') := by kernel_rfl
theorem lp62 (x : Blk) : runM cfN (ep62 x) [] = some ((ep62 x).r, (ep62 x).h') := by kernel_rfl
theorem lp63 (x : Blk) : runM cfN (ep63 x) [4679] = some ((ep63 x).r, (ep63 x).h') := by kernel_rfl
theorem lp64 (x : Blk) : runM cfN (ep64 x) [] = some ((ep64 x).r, (ep64 x).h') := by kernel_rfl
theorem lp65 (x : Blk) : runM cfN (ep65 x) [] = some ((ep65 x).r, (ep65 x).h') := by kernel_rfl
theorem lp66 (x : Blk) : runM cfN (ep66 x) [] = some ((ep66 x).r, (ep66 x).h') := by kernel_rfl
theorem lp67 (x : Blk) : runM cfN (ep67 x) [] = some ((ep67 x).r, (ep67 x).h') := by kernel_rfl
theorem lp68 (x : Blk) : runM cfN (ep68 x) [4993] = some ((ep68 x).r, (ep68 x).h') := by kernel_rfl
theorem lp69 (x : Blk) : runM cfN (ep69 x) [] = some ((ep69 x).r, (ep69 x).h') := by kernel_rfl
theorem lp70 (x : Blk) : runM cfN (ep70 x) [] = some ((ep70 x).r, (ep70 x).h') := by kernel_rfl
theorem lp71 (x : Blk) : runM cfN (ep71 x) [] = some ((ep71 x).r, (ep71 x).h') := by kernel_rfl
theorem lp72 (x : Blk) : runM cfN (ep72 x) [5275] = some ((ep72 x).r, (ep72 x).h') := by kernel_rfl
theorem lp73 (x : Blk) : runM cfN (ep73 x) [] = some ((ep73 x).r, (ep73 x).h') := by kernel_rfl
theorem lp74 (x : Blk) : runM cfN (ep74 x) [] = some ((ep74 x).r, (ep74 x).h') := by kernel_rfl
theorem lp75 (x : Blk) : runM cfN (ep75 x) [5515] = some ((ep75 x).r, (ep75 x).h') := by kernel_rfl
theorem lp76 (x : Blk) : runM cfN (ep76 x) [] = some ((ep76 x).r, (ep76 x).h') := by kernel_rfl
end Go.Proofs.YtipaofnpdolfgaaGreat
/- Live known calls. -/
namespace Go.Proofs.YtipaofnpdolfgaaGreat
open Go.Fg
theorem lp77 (x : Blk) : runM cfN (ep77 x) [] = some ((ep77 x).r, (ep77 x).h') := by kernel_rfl
theorem lp78 (x : Blk) : runM cfN (ep78 x) [5751] = some ((ep78 x).r, (ep78 x).h') := by kernel_rfl
theorem lp79 (x : Blk) : runM cfN (ep79 x) [] = some ((ep79 x).r, (ep79 x).h') := by kernel_rfl
theorem lp80 (x : Blk) : runM cfN (ep80 x) [] = some ((ep80 x).r, (ep80 x).h') := by kernel_rfl
theorem lp81 (x : Blk) : runM cfN (ep81 x) [5983] = some ((ep81 x).r, (ep81 x).h') := by kernel_rfl
theorem lp82 (x : Blk) : runM cfN (ep82 x) [] = some ((ep82 x).r, (ep82 x).h') := by kernel_rfl
theorem lp83 (x : Blk) : runM cfN (ep83 x) [] = some ((ep83 x).r, (ep83 x).h') := by kernel_rfl
theorem lp84 (x : Blk) : runM cfN (ep84 x) [6211] = some ((ep84 x).r, (ep84 x).h') := by kernel_rfl
theorem lp85 (x : Blk) : runM cfN (ep85 x) [] = some ((ep85 x).r, (ep85 x).h') := by kernel_rfl
theorem lp86 (x : Blk) : runM cfN (ep86 x) [] = some ((ep86 x).r, (ep86 x).h') := by kernel_rfl
theorem lp87 (x : Blk) : runM cfN (ep87 x) [6435] = some ((ep87 x).r, (ep87 x).h') := by kernel_rfl
theorem lp88 (x : Blk) : runM cfN (ep88 x) [] = some ((ep88 x).r, (ep88 x).h') := by kernel_rfl
theorem lp89 (x : Blk) : runM cfN (ep89 x) [] = some ((ep89 x).r, (ep89 x).h') := by kernel_rfl
theorem lp90 (x : Blk) : runM cfN (ep90 x) [6655] = some ((ep90 x).r, (ep90 x).h') := by kernel_rfl
theorem lp91 (x : Blk) : runM cfN (ep91 x) [] = some ((ep91 x).r, (ep91 x).h') := by kernel_rfl
end Go.Proofs.YtipaofnpdolfgaaGreat
/- Live known calls. -/
namespace Go.Proofs.YtipaofnpdolfgaaGreat
open Go.Fg
theorem lp92 (x : Blk) : runM cfN (ep92 x) [6733, 6734, 6735, 6746, 6749, 6759, 6762, 6775, 6778, 6791, 6794, 6807, 6810, 6823, 6826, 6836, 6839, 6849, 6852, 6865, 6868, 6881, 6884, 6897, 6900, 6913, 6916, 6929, 6932, 6945, 6948, 6961, 6964, 6977, 6980, 6993, 6996, 7009, 7012, 7025, 7027, 7028, 7030, 7032] = some ((ep92 x).r, (ep92 x).h') := by kernel_rfl
theorem lp93 (x : Blk) : runM cfN (ep93 x) [7299] = some ((ep93 x).r, (ep93 x).h') := by kernel_rfl
theorem lp94 (x : Blk) : runM cfN (ep94 x) [] = some ((ep94 x).r, (ep94 x).h') := by kernel_rfl
theorem lp95 (x : Blk) : runM cfN (ep95 x) [] = some ((ep95 x).r, (ep95 x).h') := by kernel_rfl
theorem lp96 (x : Blk) : runM cfN (ep96 x) [7668] = some ((ep96 x).r, (ep96 x).h') := by kernel_rfl
theorem lp97 (x : Blk) : runM cfN (ep97 x) [] = some ((ep97 x).r, (ep97 x).h') := by kernel_rfl
theorem lp98 (x : Blk) : runM cfN (ep98 x) [] = some ((ep98 x).r, (ep98 x).h') := by kernel_rfl
end Go.Proofs.YtipaofnpdolfgaaGreat
