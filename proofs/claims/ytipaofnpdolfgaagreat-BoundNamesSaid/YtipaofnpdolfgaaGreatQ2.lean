/- Live known calls. -/
import Derived.Test.YtipaofnpdolfgaaGreatBd
namespace Go.Proofs.YtipaofnpdolfgaaGreat
open Go.Fg
theorem lq65 (x : Blk) : runM cfN (eq65 x) [] = some ((eq65 x).r, (eq65 x).h') := by kernel_rfl
theorem lq66 (x : Blk) : runM cfN (eq66 x) [] = some ((eq66 x).r, (eq66 x).h') := by kernel_rfl
end Go.Proofs.YtipaofnpdolfgaaGreat
