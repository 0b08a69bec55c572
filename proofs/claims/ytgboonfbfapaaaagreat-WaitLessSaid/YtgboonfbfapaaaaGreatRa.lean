/- A known call. -/
import Derived.Test.YtgboonfbfapaaaaGreatAw
set_option linter.unusedVariables false
set_option linter.unusedSimpArgs false
set_option linter.unusedSectionVars false
namespace Go.Proofs.YtgboonfbfapaaaaGreat
open Go.Fg
theorem h1 : goT 10 [alV, i0V] rh1 = true := by kernel_rfl
end Go.Proofs.YtgboonfbfapaaaaGreat
