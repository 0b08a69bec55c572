/- Part of the proof. -/
import Derived.Test.YtbmnfifnenajjaaGreatNag
set_option linter.all false
noncomputable section
