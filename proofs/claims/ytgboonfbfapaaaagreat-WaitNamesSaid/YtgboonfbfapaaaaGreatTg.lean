/- A known call. -/
import Derived.Test.YtgboonfbfapaaaaGreatKg
namespace Go.Proofs.YtgboonfbfapaaaaGreat
open Go.Fg
theorem t12 : goT [51, 52, 54] 13 [v6V, v3V] v16V = true := by kernel_rfl
end Go.Proofs.YtgboonfbfapaaaaGreat
