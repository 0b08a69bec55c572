/- A known call. -/
import Derived.Test.YtgboonfbfapaaaaGreatKg
namespace Go.Proofs.YtgboonfbfapaaaaGreat
open Go.Fg
theorem t16 : goT [51, 52, 54] 18 [v18V, v11V, (.i .i64 0)] v14V = true := by kernel_rfl
end Go.Proofs.YtgboonfbfapaaaaGreat
/- A known call. -/
namespace Go.Proofs.YtgboonfbfapaaaaGreat
open Go.Fg
theorem t17 : goT [51, 52, 54] 10 [v18V, v20V] v10V = true := by kernel_rfl
end Go.Proofs.YtgboonfbfapaaaaGreat
