/- A known call. -/
import Derived.Test.YtgboonfbfapaaaaGreatKg
namespace Go.Proofs.YtgboonfbfapaaaaGreat
open Go.Fg
theorem t13 : goT [51, 52, 54] 12 [v17V, v3V] v15V = true := by kernel_rfl
end Go.Proofs.YtgboonfbfapaaaaGreat
