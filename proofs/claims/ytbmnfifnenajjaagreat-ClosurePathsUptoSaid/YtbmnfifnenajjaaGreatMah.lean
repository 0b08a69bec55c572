/- Part of the proof. -/
import Derived.Test.YtbmnfifnenajjaaGreatMag
set_option linter.all false
noncomputable section
