/- Live known calls. -/
import Derived.Test.YtipaofnpdolfgaaGreatBc
namespace Go.Proofs.YtipaofnpdolfgaaGreat
open Go.Fg
theorem lp0 (x : Blk) : runM cfN (ep0 x) [484, 486, 489, 490, 494, 495, 496, 507, 510, 523, 526, 539, 542, 552, 554, 555, 557, 558] = some ((ep0 x).r, (ep0 x).h') := by kernel_rfl
theorem lp1 (x : Blk) : runM cfN (ep1 x) [597] = some ((ep1 x).r, (ep1 x).h') := by kernel_rfl
theorem lp2 (x : Blk) : runM cfN (ep2 x) [] = some ((ep2 x).r, (ep2 x).h') := by kernel_rfl
theorem lp3 (x : Blk) : runM cfN (ep3 x) [] = some ((ep3 x).r, (ep3 x).h') := by kernel_rfl
theorem lp4 (x : Blk) : runM cfN (ep4 x) [654, 655, 656, 667, 670, 680, 683, 696, 699, 712, 715, 728, 731, 744, 747, 757, 760, 770, 773, 786, 789, 802, 805, 818, 821, 834, 837, 850, 853, 866, 869, 882, 885, 898, 901, 914, 917, 930, 933, 946, 948, 949, 951, 953] = some ((ep4 x).r, (ep4 x).h') := by kernel_rfl
theorem lp5 (x : Blk) : runM cfN (ep5 x) [] = some ((ep5 x).r, (ep5 x).h') := by kernel_rfl
theorem lp6 (x : Blk) : runM cfN (ep6 x) [1056] = some ((ep6 x).r, (ep6 x).h') := by kernel_rfl
theorem lp7 (x : Blk) : runM cfN (ep7 x) [1197, 1199] = some ((ep7 x).r, (ep7 x).h') := by kernel_rfl
theorem lp8 (x : Blk) : runM cfN (ep8 x) [] = some ((ep8 x).r, (ep8 x).h') := by kernel_rfl
theorem lp9 (x : Blk) : runM cfN (ep9 x) [] = some ((ep9 x).r, (ep9 x).h') := by kernel_rfl
theorem lp10 (x : Blk) : runM cfN (ep10 x) [1341] = some ((ep10 x).r, (ep10 x).h') := by kernel_rfl
theorem lp11 (x : Blk) : runM cfN (ep11 x) [] = some ((ep11 x).r, (ep11 x).h') := by kernel_rfl
theorem lp12 (x : Blk) : runM cfN (ep12 x) [] = some ((ep12 x).r, (ep12 x).h') := by kernel_rfl
end Go.Proofs.YtipaofnpdolfgaaGreat
/- Live known calls. -/
namespace Go.Proofs.YtipaofnpdolfgaaGreat
open Go.Fg
theorem lp13 (x : Blk) : runM cfN (ep13 x) [1628] = some ((ep13 x).r, (ep13 x).h') := by kernel_rfl
theorem lp14 (x : Blk) : runM cfN (ep14 x) [] = some ((ep14 x).r, (ep14 x).h') := by kernel_rfl
theorem lp15 (x : Blk) : runM cfN (ep15 x) [] = some ((ep15 x).r, (ep15 x).h') := by kernel_rfl
theorem lp16 (x : Blk) : runM cfN (ep16 x) [] = some ((ep16 x).r, (ep16 x).h') := by kernel_rfl
theorem lp17 (x : Blk) : runM cfN (ep17 x) [] = some ((ep17 x).r, (ep17 x).h') := by kernel_rfl
theorem lp18 (x : Blk) : runM cfN (ep18 x) [] = some ((ep18 x).r, (ep18 x).h') := by kernel_rfl
theorem lp19 (x : Blk) : runM cfN (ep19 x) [] = some ((ep19 x).r, (ep19 x).h') := by kernel_rfl
theorem lp20 (x : Blk) : runM cfN (ep20 x) [1874] = some ((ep20 x).r, (ep20 x).h') := by kernel_rfl
theorem lp21 (x : Blk) : runM cfN (ep21 x) [] = some ((ep21 x).r, (ep21 x).h') := by kernel_rfl
theorem lp22 (x : Blk) : runM cfN (ep22 x) [] = some ((ep22 x).r, (ep22 x).h') := by kernel_rfl
theorem lp23 (x : Blk) : runM cfN (ep23 x) [] = some ((ep23 x).r, (ep23 x).h') := by kernel_rfl
theorem lp24 (x : Blk) : runM cfN (ep24 x) [] = some ((ep24 x).r, (ep24 x).h') := by kernel_rfl
theorem lp25 (x : Blk) : runM cfN (ep25 x) [2102] = some ((ep25 x).r, (ep25 x).h') := by kernel_rfl
theorem lp26 (x : Blk) : runM cfN (ep26 x) [] = some ((ep26 x).r, (ep26 x).h') := by kernel_rfl
theorem lp27 (x : Blk) : runM cfN (ep27 x) [] = some ((ep27 x).r, (ep27 x).h') := by kernel_rfl
theorem lp28 (x : Blk) : runM cfN (ep28 x) [] = some ((ep28 x).r, (ep28 x).h') := by kernel_rfl
theorem lp29 (x : Blk) : runM cfN (ep29 x) [2298] = some ((ep29 x).r, (ep29 x).h') := by kernel_rfl
theorem lp30 (x : Blk) : runM cfN (ep30 x) [] = some ((ep30 x).r, (ep30 x).h') := by kernel_rfl
theorem lp31 (x : Blk) : runM cfN (ep31 x) [] = some ((ep31 x).r, (ep31 x).h') := by kernel_rfl
theorem lp32 (x : Blk) : runM cfN (ep32 x) [2452] = some ((ep32 x).r, (ep32 x).h') := by kernel_rfl
theorem lp33 (x : Blk) : runM cfN (ep33 x) [] = some ((ep33 x).r, (ep33 x).h') := by kernel_rfl
theorem lp34 (x : Blk) : runM cfN (ep34 x) [] = some ((ep34 x).r, (ep34 x).h') := by kernel_rfl
theorem lp35 (x : Blk) : runM cfN (ep35 x) [2602] = some ((ep35 x).r, (ep35 x).h') := by kernel_rfl
theorem lp36 (x : Blk) : runM cfN (ep36 x) [] = some ((ep36 x).r, (ep36 x).h') := by kernel_rfl
theorem lp37 (x : Blk) : runM cfN (ep37 x) [] = some ((ep37 x).r, (ep37 x).h') := by kernel_rfl
theorem lp38 (x : Blk) : runM cfN (ep38 x) [2748] = some ((ep38 x).r, (ep38 x).h') := by kernel_rfl
theorem lp39 (x : Blk) : runM cfN (ep39 x) [] = some ((ep39 x).r, (ep39 x).h') := by kernel_rfl
theorem lp40 (x : Blk) : runM cfN (ep40 x) [] = some ((ep40 x).r, (ep40 x).h') := by kernel_rfl
theorem lp41 (x : Blk) : runM cfN (ep41 x) [2890] = some ((ep41 x).r, (ep41 x).h') := by kernel_rfl
theorem lp42 (x : Blk) : runM cfN (ep42 x) [] = some ((ep42 x).r, (ep42 x).h') := by kernel_rfl
end Go.Proofs.YtipaofnpdolfgaaGreat
/- Live known calls. -/
namespace Go.Proofs.YtipaofnpdolfgaaGreat
open Go.Fg
theorem lp43 (x : Blk) : runM cfN (ep43 x) [] = some ((ep43 x).r, (ep43 x).h') := by kernel_rfl
theorem lp44 (x : Blk) : runM cfN (ep44 x) [3028] = some ((ep44 x).r, (ep44 x).h') := by kernel_rfl
theorem lp45 (x : Blk) : runM cfN (ep45 x) [] = some ((ep45 x).r, (ep45 x).h') := by kernel_rfl
theorem lp46 (x : Blk) : runM cfN (ep46 x) [] = some ((ep46 x).r, (ep46 x).h') := by kernel_rfl
theorem lp47 (x : Blk) : runM cfN (ep47 x) [3162] = some ((ep47 x).r, (ep47 x).h') := by kernel_rfl
theorem lp48 (x : Blk) : runM cfN (ep48 x) [] = some ((ep48 x).r, (ep48 x).h') := by kernel_rfl
theorem lp49 (x : Blk) : runM cfN (ep49 x) [3211, 3212, 3213, 3224, 3227, 3237, 3240, 3253, 3256, 3269, 3272, 3285, 3288, 3301, 3304, 3314, 3317, 3327, 3330, 3343, 3346, 3359, 3362, 3375, 3378, 3391, 3394, 3407, 3410, 3423, 3426, 3439, 3442, 3455, 3458, 3471, 3474, 3487, 3490, 3503, 3505, 3506, 3508, 3510] = some ((ep49 x).r, (ep49 x).h') := by kernel_rfl
theorem lp50 (x : Blk) : runM cfN (ep50 x) [3691] = some ((ep50 x).r, (ep50 x).h') := by kernel_rfl
theorem lp51 (x : Blk) : runM cfN (ep51 x) [] = some ((ep51 x).r, (ep51 x).h') := by kernel_rfl
theorem lp52 (x : Blk) : runM cfN (ep52 x) [] = some ((ep52 x).r, (ep52 x).h') := by kernel_rfl
theorem lp53 (x : Blk) : runM cfN (ep53 x) [3974] = some ((ep53 x).r, (ep53 x).h') := by kernel_rfl
theorem lp54 (x : Blk) : runM cfN (ep54 x) [] = some ((ep54 x).r, (ep54 x).h') := by kernel_rfl
theorem lp55 (x : Blk) : runM cfN (ep55 x) [] = some ((ep55 x).r, (ep55 x).h') := by kernel_rfl
end Go.Proofs.YtipaofnpdolfgaaGreat
