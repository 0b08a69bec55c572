/- A known call. -/
import Derived.Test.YtgboonfbfapaaaaGreatKg
namespace Go.Proofs.YtgboonfbfapaaaaGreat
open Go.Fg
theorem t9 : goT [26, 51, 52, 54] 17 [v4V, v11V, v13V] v14V = true := by kernel_rfl
end Go.Proofs.YtgboonfbfapaaaaGreat
