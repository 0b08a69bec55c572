/- A known call. -/
import Derived.Test.YtgboonfbfapaaaaGreatKg
namespace Go.Proofs.YtgboonfbfapaaaaGreat
open Go.Fg
theorem t4 : goT [51, 52, 54] 17 [v6V, v3V, v9V] v8V = true := by kernel_rfl
end Go.Proofs.YtgboonfbfapaaaaGreat
