/- Known calls. -/
import Derived.Test.YtgboonfbfapaaaaGreatGa
namespace Go.Proofs.YtgboonfbfapaaaaGreat
open Go.Fg
theorem km : goN 51 [v17V] v21V = true := by kernel_rfl
theorem kn : goN 52 [v17V, v3V] v24V = true := by kernel_rfl
theorem ko : goN 54 [v17V, (.i .i64 0)] v25V = true := by kernel_rfl
end Go.Proofs.YtgboonfbfapaaaaGreat
