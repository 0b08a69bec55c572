/- Live known calls. -/
import Derived.Test.YtipaofnpdolfgaaGreatBk
namespace Go.Proofs.YtipaofnpdolfgaaGreat
open Go.Fg
theorem li0 : runL cfU ei0 [60, 62, 65, 68, 71, 74, 79, 81, 86, 89, 92, 95, 98, 101, 104, 107, 109, 554, 558, 563, 567, 572, 577, 582, 587, 592, 597, 602, 605] = true := by kernel_rfl
end Go.Proofs.YtipaofnpdolfgaaGreat
/- Live known calls. -/
namespace Go.Proofs.YtipaofnpdolfgaaGreat
open Go.Fg
theorem li1 : runL cfU ei1 [] = true := by kernel_rfl
theorem li2 : runL cfU ei2 [] = true := by kernel_rfl
end Go.Proofs.YtipaofnpdolfgaaGreat
/- Live known calls. -/
namespace Go.Proofs.YtipaofnpdolfgaaGreat
open Go.Fg
theorem li3 : runL cfU ei3 [1233, 1235, 1238, 1241, 1244, 1254, 1259, 1262, 1265, 1268, 1271, 1274, 1277, 1280, 1282, 1727, 1731, 1736, 1740, 1745, 1750, 1755, 1760, 1765, 1770, 1775, 1781, 1784, 1785, 1787] = true := by kernel_rfl
end Go.Proofs.YtipaofnpdolfgaaGreat
