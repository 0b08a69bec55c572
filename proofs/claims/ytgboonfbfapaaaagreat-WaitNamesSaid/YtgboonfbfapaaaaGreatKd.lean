/- Known calls. -/
import Derived.Test.YtgboonfbfapaaaaGreatGa
namespace Go.Proofs.YtgboonfbfapaaaaGreat
open Go.Fg
theorem kf : goN 51 [v4V] v21V = true := by kernel_rfl
theorem kg : goN 54 [v4V, (.i .i64 0)] v23V = true := by kernel_rfl
theorem kh : goN 54 [v4V, (.i .i64 1)] v30V = true := by kernel_rfl
end Go.Proofs.YtgboonfbfapaaaaGreat
