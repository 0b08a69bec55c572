/- A known call. -/
import Derived.Test.YtgboonfbfapaaaaGreatKg
namespace Go.Proofs.YtgboonfbfapaaaaGreat
open Go.Fg
theorem t11 : goT [51, 52, 54] 18 [v6V, v3V, (.i .i64 0)] v16V = true := by kernel_rfl
end Go.Proofs.YtgboonfbfapaaaaGreat
/- A known call. -/
namespace Go.Proofs.YtgboonfbfapaaaaGreat
open Go.Fg
theorem t15 : goT [51, 52, 54] 10 [v18V, v11V] v19V = true := by kernel_rfl
end Go.Proofs.YtgboonfbfapaaaaGreat
