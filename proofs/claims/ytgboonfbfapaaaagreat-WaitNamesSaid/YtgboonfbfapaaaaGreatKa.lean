/- Known calls. -/
import Derived.Test.YtgboonfbfapaaaaGreatGa
namespace Go.Proofs.YtgboonfbfapaaaaGreat
open Go.Fg
theorem ka : goN 52 [v4V, v1V] v26V = true := by kernel_rfl
end Go.Proofs.YtgboonfbfapaaaaGreat
