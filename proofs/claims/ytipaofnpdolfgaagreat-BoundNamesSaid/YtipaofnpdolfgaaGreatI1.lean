/- Live known calls. -/
import Derived.Test.YtipaofnpdolfgaaGreatBk
namespace Go.Proofs.YtipaofnpdolfgaaGreat
open Go.Fg
theorem li4 : runL cfU ei4 [1847, 1849, 1852, 1855, 1858, 1868, 1873, 1876, 1879, 1882, 1885, 1888, 1891, 1894, 1896, 2615, 2619, 2624, 2628, 2633, 2638, 2643, 2648, 2653, 2658, 2663, 2669, 2672, 2673, 2675] = true := by kernel_rfl
theorem li5 : runL cfU ei5 [] = true := by kernel_rfl
theorem li6 : runL cfU ei6 [] = true := by kernel_rfl
theorem li7 : runL cfU ei7 [] = true := by kernel_rfl
theorem li8 : runL cfU ei8 [] = true := by kernel_rfl
theorem li9 : runL cfU ei9 [] = true := by kernel_rfl
theorem li10 : runL cfU ei10 [] = true := by kernel_rfl
theorem li11 : runL cfU ei11 [] = true := by kernel_rfl
end Go.Proofs.YtipaofnpdolfgaaGreat
/- Live known calls. -/
namespace Go.Proofs.YtipaofnpdolfgaaGreat
open Go.Fg
theorem li12 : runL cfU ei12 [3651] = true := by kernel_rfl
theorem li13 : runL cfU ei13 [] = true := by kernel_rfl
end Go.Proofs.YtipaofnpdolfgaaGreat
