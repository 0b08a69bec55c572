/- Known calls. -/
import Derived.Test.YtgboonfbfapaaaaGreatGa
namespace Go.Proofs.YtgboonfbfapaaaaGreat
open Go.Fg
theorem kb : goN 53 [v4V, v1V] v27V = true := by kernel_rfl
end Go.Proofs.YtgboonfbfapaaaaGreat
