/- A known call. -/
import Derived.Test.YtgboonfbfapaaaaGreatKg
namespace Go.Proofs.YtgboonfbfapaaaaGreat
open Go.Fg
theorem t3 : goT [51, 52, 54] 14 [v6V, v3V, v7V] v8V = true := by kernel_rfl
end Go.Proofs.YtgboonfbfapaaaaGreat
