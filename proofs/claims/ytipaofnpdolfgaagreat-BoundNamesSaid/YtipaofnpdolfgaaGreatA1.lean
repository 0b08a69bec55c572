/- Live known calls. -/
import Derived.Test.YtipaofnpdolfgaaGreatBa
namespace Go.Proofs.YtipaofnpdolfgaaGreat
open Go.Fg
theorem la56 : runL cfN ea56 [4346] = true := by kernel_rfl
theorem la57 : runL cfN ea57 [] = true := by kernel_rfl
theorem la58 : runL cfN ea58 [] = true := by kernel_rfl
theorem la59 : runL cfN ea59 [] = true := by kernel_rfl
theorem la60 : runL cfN ea60 [] = true := by kernel_rfl
theorem la61 : runL cfN ea61 [] = true := by kernel_rfl
theorem la62 : runL cfN ea62 [] = true := by kernel_rfl
theorem la63 : runL cfN ea63 [4678] = true := by kernel_rfl
theorem la64 : runL cfN ea64 [] = true := by kernel_rfl
theorem la65 : runL cfN ea65 [] = true := by kernel_rfl
theorem la66 : runL cfN ea66 [] = true := by kernel_rfl
theorem la67 : runL cfN ea67 [] = true := by kernel_rfl
theorem la68 : runL cfN ea68 [4992] = true := by kernel_rfl
theorem la69 : runL cfN ea69 [] = true := by kernel_rfl
theorem la70 : runL cfN ea70 [] = true := by kernel_rfl
theorem la71 : runL cfN ea71 [] = true := by kernel_rfl
theorem la72 : runL cfN ea72 [5274] = true := by kernel_rfl
theorem la73 : runL cfN ea73 [] = true := by kernel_rfl
theorem la74 : runL cfN ea74 [] = true := by kernel_rfl
theorem la75 : runL cfN ea75 [5514] = true := by kernel_rfl
theorem la76 : runL cfN ea76 [] = true := by kernel_rfl
end Go.Proofs.YtipaofnpdolfgaaGreat
/- Live known calls. -/
namespace Go.Proofs.YtipaofnpdolfgaaGreat
open Go.Fg
theorem la77 : runL cfN ea77 [] = true := by kernel_rfl
theorem la78 : runL cfN ea78 [5750] = true := by kernel_rfl
theorem la79 : runL cfN ea79 [] = true := by kernel_rfl
theorem la80 : runL cfN ea80 [] = true := by kernel_rfl
theorem la81 : runL cfN ea81 [5982] = true := by kernel_rfl
theorem la82 : runL cfN ea82 [] = true := by kernel_rfl
theorem la83 : runL cfN ea83 [] = true := by kernel_rfl
theorem la84 : runL cfN ea84 [6210] = true := by kernel_rfl
theorem la85 : runL cfN ea85 [] = true := by kernel_rfl
theorem la86 : runL cfN ea86 [] = true := by kernel_rfl
theorem la87 : runL cfN ea87 [6434] = true := by kernel_rfl
theorem la88 : runL cfN ea88 [] = true := by kernel_rfl
theorem la89 : runL cfN ea89 [] = true := by kernel_rfl
theorem la90 : runL cfN ea90 [6654] = true := by kernel_rfl
theorem la91 : runL cfN ea91 [] = true := by kernel_rfl
end Go.Proofs.YtipaofnpdolfgaaGreat
/- Live known calls. -/
namespace Go.Proofs.YtipaofnpdolfgaaGreat
open Go.Fg
theorem la92 : runL cfN ea92 [6732, 6733, 6734, 6745, 6748, 6758, 6761, 6774, 6777, 6790, 6793, 6806, 6809, 6822, 6825, 6835, 6838, 6848, 6851, 6864, 6867, 6880, 6883, 6896, 6899, 6912, 6915, 6928, 6931, 6944, 6947, 6960, 6963, 6976, 6979, 6992, 6995, 7008, 7011, 7024, 7026, 7027, 7029, 7031] = true := by kernel_rfl
theorem la93 : runL cfN ea93 [7298] = true := by kernel_rfl
theorem la94 : runL cfN ea94 [] = true := by kernel_rfl
theorem la95 : runL cfN ea95 [] = true := by kernel_rfl
theorem la96 : runL cfN ea96 [7667] = true := by kernel_rfl
theorem la97 : runL cfN ea97 [] = true := by kernel_rfl
theorem la98 : runL cfN ea98 [] = true := by kernel_rfl
end Go.Proofs.YtipaofnpdolfgaaGreat
