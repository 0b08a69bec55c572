/- A known call. -/
import Derived.Test.YtgboonfbfapaaaaGreatAw
set_option linter.unusedVariables false
set_option linter.unusedSimpArgs false
set_option linter.unusedSectionVars false
namespace Go.Proofs.YtgboonfbfapaaaaGreat
open Go.Fg
theorem h3 : goT 10 [heV, inV [[.i .i64 7]]] rh3 = true := by kernel_rfl
end Go.Proofs.YtgboonfbfapaaaaGreat
