/- A known call. -/
import Derived.Test.YtgboonfbfapaaaaGreatKg
namespace Go.Proofs.YtgboonfbfapaaaaGreat
open Go.Fg
theorem t5 : goT [51, 52, 54] 18 [v6V, v3V, (.i .i64 1)] v8V = true := by kernel_rfl
end Go.Proofs.YtgboonfbfapaaaaGreat
/- A known call. -/
namespace Go.Proofs.YtgboonfbfapaaaaGreat
open Go.Fg
theorem t10 : goT [51, 52, 54] 10 [v6V, v3V] v15V = true := by kernel_rfl
end Go.Proofs.YtgboonfbfapaaaaGreat
