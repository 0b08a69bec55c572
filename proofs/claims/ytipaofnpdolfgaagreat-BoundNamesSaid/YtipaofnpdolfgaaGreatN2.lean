/- Known calls. -/
import Derived.Test.YtipaofnpdolfgaaGreatBj
namespace Go.Proofs.YtipaofnpdolfgaaGreat
open Go.Fg
theorem kn8 : goC cfK 60 [pwV, in2V, (nn 1)] kr8 = true := by kernel_rfl
theorem kn9 : goC cfK 60 [pwV, in2V, (nn 2)] kr9 = true := by kernel_rfl
end Go.Proofs.YtipaofnpdolfgaaGreat
/- Known calls. -/
namespace Go.Proofs.YtipaofnpdolfgaaGreat
open Go.Fg
theorem kn10 : goC cfK 60 [pwV, in2V, (nn 3)] kr10 = true := by kernel_rfl
end Go.Proofs.YtipaofnpdolfgaaGreat
/- Known calls. -/
namespace Go.Proofs.YtipaofnpdolfgaaGreat
open Go.Fg
theorem kn11 : goC cfK 60 [pwV, in2V, (nn 4)] kr11 = true := by kernel_rfl
end Go.Proofs.YtipaofnpdolfgaaGreat
