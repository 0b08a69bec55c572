/- Live known calls. -/
import Derived.Test.YtipaofnpdolfgaaGreatBh
namespace Go.Proofs.YtipaofnpdolfgaaGreat
open Go.Fg
theorem lh6 : Go.Fg.runT cfT27 eh6 [] = true := by kernel_rfl
end Go.Proofs.YtipaofnpdolfgaaGreat
