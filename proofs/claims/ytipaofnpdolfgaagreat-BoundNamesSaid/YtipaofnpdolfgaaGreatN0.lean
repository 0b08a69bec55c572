/- Known calls. -/
import Derived.Test.YtipaofnpdolfgaaGreatBj
namespace Go.Proofs.YtipaofnpdolfgaaGreat
open Go.Fg
theorem kn0 : goC cfK 65 [twoV] kr0 = true := by kernel_rfl
end Go.Proofs.YtipaofnpdolfgaaGreat
/- Known calls. -/
namespace Go.Proofs.YtipaofnpdolfgaaGreat
open Go.Fg
theorem kn1 : goC cfK 87 [pwV, in0V] kr1 = true := by kernel_rfl
end Go.Proofs.YtipaofnpdolfgaaGreat
/- Known calls. -/
namespace Go.Proofs.YtipaofnpdolfgaaGreat
open Go.Fg
theorem kn2 : goC cfK 88 [pwV, in0V] kr2 = true := by kernel_rfl
theorem kn3 : goC cfK 87 [pwV, in1V] kr3 = true := by kernel_rfl
theorem kn4 : goC cfK 65 [(.sli [])] kr4 = true := by kernel_rfl
end Go.Proofs.YtipaofnpdolfgaaGreat
