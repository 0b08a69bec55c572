/- Live known calls. -/
import Derived.Test.YtipaofnpdolfgaaGreatBd
namespace Go.Proofs.YtipaofnpdolfgaaGreat
open Go.Fg
theorem lq39 (x : Blk) : runM cfN (eq39 x) [2976] = some ((eq39 x).r, (eq39 x).h') := by kernel_rfl
theorem lq40 (x : Blk) : runM cfN (eq40 x) [] = some ((eq40 x).r, (eq40 x).h') := by kernel_rfl
theorem lq41 (x : Blk) : runM cfN (eq41 x) [] = some ((eq41 x).r, (eq41 x).h') := by kernel_rfl
theorem lq42 (x : Blk) : runM cfN (eq42 x) [3318] = some ((eq42 x).r, (eq42 x).h') := by kernel_rfl
theorem lq43 (x : Blk) : runM cfN (eq43 x) [] = some ((eq43 x).r, (eq43 x).h') := by kernel_rfl
theorem lq44 (x : Blk) : runM cfN (eq44 x) [] = some ((eq44 x).r, (eq44 x).h') := by kernel_rfl
theorem lq45 (x : Blk) : runM cfN (eq45 x) [3586] = some ((eq45 x).r, (eq45 x).h') := by kernel_rfl
theorem lq46 (x : Blk) : runM cfN (eq46 x) [] = some ((eq46 x).r, (eq46 x).h') := by kernel_rfl
theorem lq47 (x : Blk) : runM cfN (eq47 x) [] = some ((eq47 x).r, (eq47 x).h') := by kernel_rfl
theorem lq48 (x : Blk) : runM cfN (eq48 x) [] = some ((eq48 x).r, (eq48 x).h') := by kernel_rfl
theorem lq49 (x : Blk) : runM cfN (eq49 x) [3745, 3746, 3747, 3758, 3761, 3771, 3774, 3787, 3790, 3803, 3806, 3819, 3822, 3835, 3838, 3848, 3851, 3861, 3863, 3864, 3866, 3868] = some ((eq49 x).r, (eq49 x).h') := by kernel_rfl
theorem lq50 (x : Blk) : runM cfN (eq50 x) [4131] = some ((eq50 x).r, (eq50 x).h') := by kernel_rfl
theorem lq51 (x : Blk) : runM cfN (eq51 x) [] = some ((eq51 x).r, (eq51 x).h') := by kernel_rfl
theorem lq52 (x : Blk) : runM cfN (eq52 x) [] = some ((eq52 x).r, (eq52 x).h') := by kernel_rfl
theorem lq53 (x : Blk) : runM cfN (eq53 x) [] = some ((eq53 x).r, (eq53 x).h') := by kernel_rfl
end Go.Proofs.YtipaofnpdolfgaaGreat
/- Live known calls. -/
namespace Go.Proofs.YtipaofnpdolfgaaGreat
open Go.Fg
theorem lq54 (x : Blk) : runM cfN (eq54 x) [] = some ((eq54 x).r, (eq54 x).h') := by kernel_rfl
theorem lq55 (x : Blk) : runM cfN (eq55 x) [4571] = some ((eq55 x).r, (eq55 x).h') := by kernel_rfl
theorem lq56 (x : Blk) : runM cfN (eq56 x) [] = some ((eq56 x).r, (eq56 x).h') := by kernel_rfl
theorem lq57 (x : Blk) : runM cfN (eq57 x) [] = some ((eq57 x).r, (eq57 x).h') := by kernel_rfl
theorem lq58 (x : Blk) : runM cfN (eq58 x) [4995] = some ((eq58 x).r, (eq58 x).h') := by kernel_rfl
theorem lq59 (x : Blk) : runM cfN (eq59 x) [] = some ((eq59 x).r, (eq59 x).h') := by kernel_rfl
theorem lq60 (x : Blk) : runM cfN (eq60 x) [] = some ((eq60 x).r, (eq60 x).h') := by kernel_rfl
theorem lq61 (x : Blk) : runM cfN (eq61 x) [5316] = some ((eq61 x).r, (eq61 x).h') := by kernel_rfl
theorem lq62 (x : Blk) : runM cfN (eq62 x) [] = some ((eq62 x).r, (eq62 x).h') := by kernel_rfl
theorem lq63 (x : Blk) : runM cfN (eq63 x) [] = some ((eq63 x).r, (eq63 x).h') := by kernel_rfl
theorem lq64 (x : Blk) : runM cfN (eq64 x) [] = some ((eq64 x).r, (eq64 x).h') := by kernel_rfl
end Go.Proofs.YtipaofnpdolfgaaGreat
