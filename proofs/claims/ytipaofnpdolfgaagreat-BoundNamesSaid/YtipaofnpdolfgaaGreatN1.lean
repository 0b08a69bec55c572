/- Known calls. -/
import Derived.Test.YtipaofnpdolfgaaGreatBj
namespace Go.Proofs.YtipaofnpdolfgaaGreat
open Go.Fg
theorem kn5 : goC cfK 87 [pwV, in2V] kr5 = true := by kernel_rfl
end Go.Proofs.YtipaofnpdolfgaaGreat
/- Known calls. -/
namespace Go.Proofs.YtipaofnpdolfgaaGreat
open Go.Fg
theorem kn6 : goC cfK 88 [pwV, in2V] kr6 = true := by kernel_rfl
theorem kn7 : goC cfK 60 [pwV, in2V, (nn 0)] kr7 = true := by kernel_rfl
end Go.Proofs.YtipaofnpdolfgaaGreat
