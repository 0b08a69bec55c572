/- A known call. -/
import Derived.Test.YtgboonfbfapaaaaGreatAw
set_option linter.unusedVariables false
set_option linter.unusedSimpArgs false
set_option linter.unusedSectionVars false
namespace Go.Proofs.YtgboonfbfapaaaaGreat
open Go.Fg
theorem o2 : goT 13 [tiV, i0V] ro2 = true := by kernel_rfl
end Go.Proofs.YtgboonfbfapaaaaGreat
