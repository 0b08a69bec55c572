/- Live known calls. -/
import Derived.Test.YtipaofnpdolfgaaGreatBd
namespace Go.Proofs.YtipaofnpdolfgaaGreat
open Go.Fg
theorem lq0 (x : Blk) : runM cfN (eq0 x) [268, 270, 273, 274, 278, 279, 280, 291, 294, 307, 310, 323, 326, 336, 338, 339, 341, 342] = some ((eq0 x).r, (eq0 x).h') := by kernel_rfl
theorem lq1 (x : Blk) : runM cfN (eq1 x) [381] = some ((eq1 x).r, (eq1 x).h') := by kernel_rfl
theorem lq2 (x : Blk) : runM cfN (eq2 x) [] = some ((eq2 x).r, (eq2 x).h') := by kernel_rfl
theorem lq3 (x : Blk) : runM cfN (eq3 x) [] = some ((eq3 x).r, (eq3 x).h') := by kernel_rfl
theorem lq4 (x : Blk) : runM cfN (eq4 x) [438, 439, 440, 451, 454, 464, 467, 480, 483, 496, 499, 512, 515, 528, 531, 541, 544, 554, 556, 557, 559, 561] = some ((eq4 x).r, (eq4 x).h') := by kernel_rfl
theorem lq5 (x : Blk) : runM cfN (eq5 x) [] = some ((eq5 x).r, (eq5 x).h') := by kernel_rfl
theorem lq6 (x : Blk) : runM cfN (eq6 x) [653] = some ((eq6 x).r, (eq6 x).h') := by kernel_rfl
theorem lq7 (x : Blk) : runM cfN (eq7 x) [728, 730] = some ((eq7 x).r, (eq7 x).h') := by kernel_rfl
theorem lq8 (x : Blk) : runM cfN (eq8 x) [] = some ((eq8 x).r, (eq8 x).h') := by kernel_rfl
theorem lq9 (x : Blk) : runM cfN (eq9 x) [] = some ((eq9 x).r, (eq9 x).h') := by kernel_rfl
theorem lq10 (x : Blk) : runM cfN (eq10 x) [861] = some ((eq10 x).r, (eq10 x).h') := by kernel_rfl
theorem lq11 (x : Blk) : runM cfN (eq11 x) [] = some ((eq11 x).r, (eq11 x).h') := by kernel_rfl
theorem lq12 (x : Blk) : runM cfN (eq12 x) [] = some ((eq12 x).r, (eq12 x).h') := by kernel_rfl
theorem lq13 (x : Blk) : runM cfN (eq13 x) [1023] = some ((eq13 x).r, (eq13 x).h') := by kernel_rfl
theorem lq14 (x : Blk) : runM cfN (eq14 x) [] = some ((eq14 x).r, (eq14 x).h') := by kernel_rfl
theorem lq15 (x : Blk) : runM cfN (eq15 x) [] = some ((eq15 x).r, (eq15 x).h') := by kernel_rfl
theorem lq16 (x : Blk) : runM cfN (eq16 x) [] = some ((eq16 x).r, (eq16 x).h') := by kernel_rfl
theorem lq17 (x : Blk) : runM cfN (eq17 x) [1124, 1125, 1126, 1137, 1140, 1150, 1153, 1166, 1169, 1182, 1185, 1198, 1201, 1214, 1217, 1227, 1230, 1240, 1242, 1243, 1245, 1247] = some ((eq17 x).r, (eq17 x).h') := by kernel_rfl
theorem lq18 (x : Blk) : runM cfN (eq18 x) [1404] = some ((eq18 x).r, (eq18 x).h') := by kernel_rfl
theorem lq19 (x : Blk) : runM cfN (eq19 x) [] = some ((eq19 x).r, (eq19 x).h') := by kernel_rfl
theorem lq20 (x : Blk) : runM cfN (eq20 x) [] = some ((eq20 x).r, (eq20 x).h') := by kernel_rfl
theorem lq21 (x : Blk) : runM cfN (eq21 x) [] = some ((eq21 x).r, (eq21 x).h') := by kernel_rfl
end Go.Proofs.YtipaofnpdolfgaaGreat
/- Live known calls. -/
namespace Go.Proofs.YtipaofnpdolfgaaGreat
open Go.Fg
theorem lq22 (x : Blk) : runM cfN (eq22 x) [] = some ((eq22 x).r, (eq22 x).h') := by kernel_rfl
theorem lq23 (x : Blk) : runM cfN (eq23 x) [1680] = some ((eq23 x).r, (eq23 x).h') := by kernel_rfl
theorem lq24 (x : Blk) : runM cfN (eq24 x) [] = some ((eq24 x).r, (eq24 x).h') := by kernel_rfl
theorem lq25 (x : Blk) : runM cfN (eq25 x) [] = some ((eq25 x).r, (eq25 x).h') := by kernel_rfl
theorem lq26 (x : Blk) : runM cfN (eq26 x) [1940] = some ((eq26 x).r, (eq26 x).h') := by kernel_rfl
theorem lq27 (x : Blk) : runM cfN (eq27 x) [] = some ((eq27 x).r, (eq27 x).h') := by kernel_rfl
theorem lq28 (x : Blk) : runM cfN (eq28 x) [] = some ((eq28 x).r, (eq28 x).h') := by kernel_rfl
theorem lq29 (x : Blk) : runM cfN (eq29 x) [2155] = some ((eq29 x).r, (eq29 x).h') := by kernel_rfl
theorem lq30 (x : Blk) : runM cfN (eq30 x) [] = some ((eq30 x).r, (eq30 x).h') := by kernel_rfl
theorem lq31 (x : Blk) : runM cfN (eq31 x) [] = some ((eq31 x).r, (eq31 x).h') := by kernel_rfl
theorem lq32 (x : Blk) : runM cfN (eq32 x) [] = some ((eq32 x).r, (eq32 x).h') := by kernel_rfl
theorem lq33 (x : Blk) : runM cfN (eq33 x) [2285, 2286, 2287, 2298, 2301, 2311, 2314, 2327, 2330, 2343, 2346, 2359, 2362, 2375, 2378, 2388, 2391, 2401, 2403, 2404, 2406, 2408] = some ((eq33 x).r, (eq33 x).h') := by kernel_rfl
theorem lq34 (x : Blk) : runM cfN (eq34 x) [2618] = some ((eq34 x).r, (eq34 x).h') := by kernel_rfl
theorem lq35 (x : Blk) : runM cfN (eq35 x) [] = some ((eq35 x).r, (eq35 x).h') := by kernel_rfl
theorem lq36 (x : Blk) : runM cfN (eq36 x) [] = some ((eq36 x).r, (eq36 x).h') := by kernel_rfl
theorem lq37 (x : Blk) : runM cfN (eq37 x) [] = some ((eq37 x).r, (eq37 x).h') := by kernel_rfl
theorem lq38 (x : Blk) : runM cfN (eq38 x) [] = some ((eq38 x).r, (eq38 x).h') := by kernel_rfl
end Go.Proofs.YtipaofnpdolfgaaGreat
