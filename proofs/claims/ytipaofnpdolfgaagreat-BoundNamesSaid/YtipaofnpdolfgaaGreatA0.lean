/- Live known calls. -/
import Derived.Test.YtipaofnpdolfgaaGreatBa
namespace Go.Proofs.YtipaofnpdolfgaaGreat
open Go.Fg
theorem la0 : runL cfN ea0 [483, 485, 488, 489, 493, 494, 495, 506, 509, 522, 525, 538, 541, 551, 553, 554, 556, 557] = true := by kernel_rfl
theorem la1 : runL cfN ea1 [596] = true := by kernel_rfl
theorem la2 : runL cfN ea2 [] = true := by kernel_rfl
theorem la3 : runL cfN ea3 [] = true := by kernel_rfl
theorem la4 : runL cfN ea4 [653, 654, 655, 666, 669, 679, 682, 695, 698, 711, 714, 727, 730, 743, 746, 756, 759, 769, 772, 785, 788, 801, 804, 817, 820, 833, 836, 849, 852, 865, 868, 881, 884, 897, 900, 913, 916, 929, 932, 945, 947, 948, 950, 952] = true := by kernel_rfl
theorem la5 : runL cfN ea5 [] = true := by kernel_rfl
theorem la6 : runL cfN ea6 [1055] = true := by kernel_rfl
theorem la7 : runL cfN ea7 [1196, 1198] = true := by kernel_rfl
theorem la8 : runL cfN ea8 [] = true := by kernel_rfl
theorem la9 : runL cfN ea9 [] = true := by kernel_rfl
theorem la10 : runL cfN ea10 [1340] = true := by kernel_rfl
theorem la11 : runL cfN ea11 [] = true := by kernel_rfl
theorem la12 : runL cfN ea12 [] = true := by kernel_rfl
end Go.Proofs.YtipaofnpdolfgaaGreat
/- Live known calls. -/
namespace Go.Proofs.YtipaofnpdolfgaaGreat
open Go.Fg
theorem la13 : runL cfN ea13 [1627] = true := by kernel_rfl
theorem la14 : runL cfN ea14 [] = true := by kernel_rfl
theorem la15 : runL cfN ea15 [] = true := by kernel_rfl
theorem la16 : runL cfN ea16 [] = true := by kernel_rfl
theorem la17 : runL cfN ea17 [] = true := by kernel_rfl
theorem la18 : runL cfN ea18 [] = true := by kernel_rfl
theorem la19 : runL cfN ea19 [] = true := by kernel_rfl
theorem la20 : runL cfN ea20 [1873] = true := by kernel_rfl
theorem la21 : runL cfN ea21 [] = true := by kernel_rfl
theorem la22 : runL cfN ea22 [] = true := by kernel_rfl
theorem la23 : runL cfN ea23 [] = true := by kernel_rfl
theorem la24 : runL cfN ea24 [] = true := by kernel_rfl
theorem la25 : runL cfN ea25 [2101] = true := by kernel_rfl
theorem la26 : runL cfN ea26 [] = true := by kernel_rfl
theorem la27 : runL cfN ea27 [] = true := by kernel_rfl
theorem la28 : runL cfN ea28 [] = true := by kernel_rfl
theorem la29 : runL cfN ea29 [2297] = true := by kernel_rfl
theorem la30 : runL cfN ea30 [] = true := by kernel_rfl
theorem la31 : runL cfN ea31 [] = true := by kernel_rfl
theorem la32 : runL cfN ea32 [2451] = true := by kernel_rfl
theorem la33 : runL cfN ea33 [] = true := by kernel_rfl
theorem la34 : runL cfN ea34 [] = true := by kernel_rfl
theorem la35 : runL cfN ea35 [2601] = true := by kernel_rfl
theorem la36 : runL cfN ea36 [] = true := by kernel_rfl
theorem la37 : runL cfN ea37 [] = true := by kernel_rfl
theorem la38 : runL cfN ea38 [2747] = true := by kernel_rfl
theorem la39 : runL cfN ea39 [] = true := by kernel_rfl
theorem la40 : runL cfN ea40 [] = true := by kernel_rfl
theorem la41 : runL cfN ea41 [2889] = true := by kernel_rfl
theorem la42 : runL cfN ea42 [] = true := by kernel_rfl
end Go.Proofs.YtipaofnpdolfgaaGreat
/- Live known calls. -/
namespace Go.Proofs.YtipaofnpdolfgaaGreat
open Go.Fg
theorem la43 : runL cfN ea43 [] = true := by kernel_rfl
theorem la44 : runL cfN ea44 [3027] = true := by kernel_rfl
theorem la45 : runL cfN ea45 [] = true := by kernel_rfl
theorem la46 : runL cfN ea46 [] = true := by kernel_rfl
theorem la47 : runL cfN ea47 [3161] = true := by kernel_rfl
theorem la48 : runL cfN ea48 [] = true := by kernel_rfl
theorem la49 : runL cfN ea49 [3210, 3211, 3212, 3223, 3226, 3236, 3239, 3252, 3255, 3268, 3271, 3284, 3287, 3300, 3303, 3313, 3316, 3326, 3329, 3342, 3345, 3358, 3361, 3374, 3377, 3390, 3393, 3406, 3409, 3422, 3425, 3438, 3441, 3454, 3457, 3470, 3473, 3486, 3489, 3502, 3504, 3505, 3507, 3509] = true := by kernel_rfl
theorem la50 : runL cfN ea50 [3690] = true := by kernel_rfl
theorem la51 : runL cfN ea51 [] = true := by kernel_rfl
theorem la52 : runL cfN ea52 [] = true := by kernel_rfl
theorem la53 : runL cfN ea53 [3973] = true := by kernel_rfl
theorem la54 : runL cfN ea54 [] = true := by kernel_rfl
theorem la55 : runL cfN ea55 [] = true := by kernel_rfl
end Go.Proofs.YtipaofnpdolfgaaGreat
