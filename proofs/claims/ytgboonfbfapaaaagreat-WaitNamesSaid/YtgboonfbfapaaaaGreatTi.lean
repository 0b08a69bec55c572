/- A known call. -/
import Derived.Test.YtgboonfbfapaaaaGreatKg
namespace Go.Proofs.YtgboonfbfapaaaaGreat
open Go.Fg
theorem t14 : goT [51, 52, 54] 13 [v17V, v3V] v10V = true := by kernel_rfl
end Go.Proofs.YtgboonfbfapaaaaGreat
