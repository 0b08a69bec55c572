/- Part of the proof. -/
import Derived.Test.YtmnfpdedgnfeiaaGreatMag
set_option linter.all false
noncomputable section
