/- A known call. -/
import Derived.Test.YtgboonfbfapaaaaGreatKg
namespace Go.Proofs.YtgboonfbfapaaaaGreat
open Go.Fg
theorem t0 : goT [51, 52, 54] 10 [v0V, v1V] v2V = true := by kernel_rfl
end Go.Proofs.YtgboonfbfapaaaaGreat
/- A known call. -/
namespace Go.Proofs.YtgboonfbfapaaaaGreat
open Go.Fg
theorem t1 : goT [51, 52, 54] 12 [(.sli []), v3V] v2V = true := by kernel_rfl
end Go.Proofs.YtgboonfbfapaaaaGreat
/- A known call. -/
namespace Go.Proofs.YtgboonfbfapaaaaGreat
open Go.Fg
theorem t2 : goT [51, 52, 53, 54] 13 [v4V, v3V] v5V = true := by kernel_rfl
end Go.Proofs.YtgboonfbfapaaaaGreat
/- A known call. -/
namespace Go.Proofs.YtgboonfbfapaaaaGreat
open Go.Fg
theorem t6 : goT [51, 52, 53, 54] 18 [v4V, v1V, (.i .i64 0)] v8V = true := by kernel_rfl
end Go.Proofs.YtgboonfbfapaaaaGreat
/- A known call. -/
namespace Go.Proofs.YtgboonfbfapaaaaGreat
open Go.Fg
theorem t7 : goT [51, 52, 53, 54] 10 [v4V, v1V] v10V = true := by kernel_rfl
end Go.Proofs.YtgboonfbfapaaaaGreat
/- A known call. -/
namespace Go.Proofs.YtgboonfbfapaaaaGreat
open Go.Fg
theorem t8 : goT [51, 52, 53, 54] 19 [v4V, v11V] v12V = true := by kernel_rfl
end Go.Proofs.YtgboonfbfapaaaaGreat
