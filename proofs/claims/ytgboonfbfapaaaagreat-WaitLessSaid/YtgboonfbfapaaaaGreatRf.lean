/- A known call. -/
import Derived.Test.YtgboonfbfapaaaaGreatAw
set_option linter.unusedVariables false
set_option linter.unusedSimpArgs false
set_option linter.unusedSectionVars false
namespace Go.Proofs.YtgboonfbfapaaaaGreat
open Go.Fg
theorem h2 : goT 10 [heV, inV []] rh2 = true := by kernel_rfl
end Go.Proofs.YtgboonfbfapaaaaGreat
