/- A known call. -/
import Derived.Test.YtgboonfbfapaaaaGreatAw
set_option linter.unusedVariables false
set_option linter.unusedSimpArgs false
set_option linter.unusedSectionVars false
namespace Go.Proofs.YtgboonfbfapaaaaGreat
open Go.Fg
theorem w2 : goT 18 [heV, inV [], .i .i64 0] rw2 = true := by kernel_rfl
end Go.Proofs.YtgboonfbfapaaaaGreat
