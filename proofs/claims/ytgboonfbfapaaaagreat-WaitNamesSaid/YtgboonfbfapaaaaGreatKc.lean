/- Known calls. -/
import Derived.Test.YtgboonfbfapaaaaGreatGa
namespace Go.Proofs.YtgboonfbfapaaaaGreat
open Go.Fg
theorem kc : goN 52 [v4V, v11V] v28V = true := by kernel_rfl
theorem kd : goN 53 [v4V, v11V] v29V = true := by kernel_rfl
end Go.Proofs.YtgboonfbfapaaaaGreat
