/- The seat's functions as closures. -/
import Derived.Test.YtkfdbldnghcngaaGreatTq
namespace Go.Proofs.YtkfdbldnghcngaaGreat.Fast
open Go.Fg
noncomputable def fn17 : FFn := ⟨[.t q0],
 mvK (ct (.b false)) q0 <|
 callK q48 [] q12 <|
 aK (alRows 1 1) [(ct (.i .i64 2))] q13 <|
 callK q49 [(ct (.b true)), (gt q13)] q14 <|
 callK q20 [(gt q12), (gt q14)] q15 <|
 mvK (gt q15) q11 <|
 extK 0 (gt q11) q16 <|
 extK 1 (gt q11) q17 <|
 alK [.sn, .sn, (.i .i64 0), (.i .i64 0), (.i .i64 0), (.i .i64 0), .sn] 7 q1 <|
 stK 7 (gt q1) (gt q16) <|
 mvK (gt q17) q2 <|
 callK q48 [] q19 <|
 aK (alRows 1 1) [(ct (.i .i64 0))] q20 <|
 callK q49 [(ct (.b true)), (gt q20)] q21 <|
 callK q20 [(gt q19), (gt q21)] q22 <|
 mvK (gt q22) q18 <|
 extK 0 (gt q18) q23 <|
 extK 1 (gt q18) q24 <|
 alK [.sn, .sn, (.i .i64 0), (.i .i64 0), (.i .i64 0), (.i .i64 0), .sn] 7 q3 <|
 stK 7 (gt q3) (gt q23) <|
 mvK (gt q24) q4 <|
 callK q48 [] q26 <|
 callK q49 [(ct (.b false)), (ct .sn)] q27 <|
 callK q20 [(gt q26), (gt q27)] q28 <|
 mvK (gt q28) q25 <|
 extK 0 (gt q25) q29 <|
 extK 1 (gt q25) q30 <|
 alK [.sn, .sn, (.i .i64 0), (.i .i64 0), (.i .i64 0), (.i .i64 0), .sn] 7 q5 <|
 stK 7 (gt q5) (gt q29) <|
 mvK (gt q30) q6 <|
 callK q48 [] q32 <|
 aK (alRows 1 1) [(ct (.i .i64 2))] q33 <|
 callK q49 [(ct (.b true)), (gt q33)] q34 <|
 aK (alRows 6 1) [(ct (.i .i64 1)), (ct (.i .i64 3)), (ct (.i .i64 2)), (ct (.i .i64 5)), (ct (.i .i64 0)), (ct (.i .i64 7))] q35 <|
 callK q25 [(gt q32), (gt q34), (gt q35)] q36 <|
 mvK (gt q36) q31 <|
 extK 0 (gt q31) q37 <|
 extK 1 (gt q31) q38 <|
 extK 2 (gt q31) q39 <|
 alK [.sn, .sn, (.i .i64 0), (.i .i64 0), (.i .i64 0), (.i .i64 0), .sn] 7 q7 <|
 stK 7 (gt q7) (gt q37) <|
 mvK (gt q38) q8 <|
 mvK (gt q39) q9 <|
 mvK (gt q2) q40 <|
 arK neqV (gt q40) (ct (.i .i64 0)) q41 <|
 mvK (gt q41) q42 <|
 gK q42 false q43 (mvK (gt q4) q43) <|
 gK q42 false q44 (arK neqV (gt q43) (ct (.i .i64 0)) q44) <|
 pickK (gt q42) (ct (.b true)) (gt q44) q45 <|
 mvK (gt q45) q46 <|
 gK q46 false q47 (mvK (gt q6) q47) <|
 gK q46 false q48 (arK neqV (gt q47) (ct (.i .i64 0)) q48) <|
 pickK (gt q46) (ct (.b true)) (gt q48) q49 <|
 mvK (gt q49) q50 <|
 gK q50 false q51 (mvK (gt q9) q51) <|
 gK q50 false q52 (arK neqV (gt q51) (ct (.i .i64 0)) q52) <|
 pickK (gt q50) (ct (.b true)) (gt q52) q53 <|
 mvK (gt q53) q54 <|
 gK q54 false q55 (rdD 15 32767 (.ld 7) [(gt q1)] q55) <|
 gK q54 false q56 (efD 16 ⟨(some q56), .call (.c (.f q50 [])) [.c (.i .i64 4)], (some (q54, false)), 32767, false⟩) <|
 gK q54 false q57 (efD 17 ⟨(some q57), .call (.c (.f q61 [])) [.t q55, .t q56, .c (.i .i64 25), .c (.i .i64 4), .c (.i .i64 1)], (some (q54, false)), 131071, false⟩) <|
 gK q54 false q58 (notK (gt q57) q58) <|
 pickK (gt q54) (ct (.b true)) (gt q58) q59 <|
 mvK (gt q59) q60 <|
 gK q60 false q61 (faK 0 (gt q3) q61) <|
 gK q60 false q62 (faK 0 (gt q61) q62) <|
 gK q60 false q63 (ld1D 23 8388607 (gt q62) q63) <|
 gK q60 false q64 (lensK (gt q63) q64) <|
 gK q60 false q65 (arK neqV (gt q64) (ct (.i .i64 1)) q65) <|
 pickK (gt q60) (ct (.b true)) (gt q65) q66 <|
 mvK (gt q66) q67 <|
 gK q67 false q68 (faK 0 (gt q3) q68) <|
 gK q67 false q69 (faK 0 (gt q68) q69) <|
 gK q67 false q70 (ld1D 30 1073741823 (gt q69) q70) <|
 gK q67 false q71 (iaK 2 (gt q70) (ct (.i .i64 0)) q71) <|
 gK q67 false q72 (rdD 32 4294967295 (.ld 2) [(gt q71)] q72) <|
 gK q67 false q73 (efD 33 ⟨(some q73), .call (.c (.f q50 [])) [.c (.i .i64 1)], (some (q67, false)), 268435455, false⟩) <|
 gK q67 false q74 (rK (evEqa true [0, 0]) [(gt q72), (gt q73)] q74) <|
 pickK (gt q67) (ct (.b true)) (gt q74) q75 <|
 mvK (gt q75) q76 <|
 gK q76 false q77 (rdD 37 137438953471 (.ld 7) [(gt q5)] q77) <|
 gK q76 false q78 (rK (evBuild [(.i .u8 0), (.i .i64 0)] []) [] q78) <|
 gK q76 false q79 (efD 39 ⟨(some q79), .call (.c (.f q61 [])) [.t q77, .t q78, .c (.i .i64 4), .c (.i .i64 2), .c (.i .i64 0)], (some (q76, false)), 549755813887, false⟩) <|
 gK q76 false q80 (notK (gt q79) q80) <|
 pickK (gt q76) (ct (.b true)) (gt q80) q81 <|
 mvK (gt q81) q82 <|
 gK q82 false q83 (rdD 43 8796093022207 (.ld 7) [(gt q1)] q83) <|
 gK q82 false q84 (rdD 44 8796093022207 (.ld 7) [(gt q7)] q84) <|
 gK q82 false q85 (efD 45 ⟨(some q85), .call (.c (.f q29 [])) [.t q83, .t q84], (some (q82, false)), 35184372088831, false⟩) <|
 gK q82 false q86 (notK (gt q85) q86) <|
 pickK (gt q82) (ct (.b true)) (gt q86) q87 <|
 mvK (gt q87) q88 <|
 gK q88 false q89 (rdD 49 562949953421311 (.ld 7) [(gt q1)] q89) <|
 gK q88 false q90 (rdD 50 562949953421311 (.ld 7) [(gt q7)] q90) <|
 gK q88 false q91 (efD 51 ⟨(some q91), .call (.c (.f q30 [])) [.t q89, .t q90], (some (q88, false)), 2251799813685247, false⟩) <|
 gK q88 false q92 (notK (gt q91) q92) <|
 pickK (gt q88) (ct (.b true)) (gt q92) q93 <|
 mvK (gt q93) q94 <|
 gK q94 false q95 (rdD 55 36028797018963967 (.ld 7) [(gt q1)] q95) <|
 gK q94 false q96 (rdD 56 36028797018963967 (.ld 7) [(gt q3)] q96) <|
 gK q94 false q97 (efD 57 ⟨(some q97), .call (.c (.f q30 [])) [.t q95, .t q96], (some (q94, false)), 144115188075855871, false⟩) <|
 pickK (gt q94) (ct (.b true)) (gt q97) q98 <|
 endD <|
 condK (gt q98) (mvK (ct (.b false)) q0 <|
 retK) (fin) <|
 callK q48 [] q100 <|
 aK (alRows 1 1) [(ct (.i .i64 2))] q101 <|
 callK q49 [(ct (.b true)), (gt q101)] q102 <|
 callK q36 [(gt q100), (gt q102)] q103 <|
 mvK (gt q103) q99 <|
 extK 0 (gt q99) q104 <|
 extK 1 (gt q99) q105 <|
 mvK (gt q104) q10 <|
 mvK (gt q105) q2 <|
 mvK (gt q2) q106 <|
 arK eqlV (gt q106) (ct (.i .i64 0)) q107 <|
 mvK (gt q107) q108 <|
 gK q108 true q109 (mvK (gt q10) q109) <|
 gK q108 true q110 (lensK (gt q109) q110) <|
 gK q108 true q111 (arK eqlV (gt q110) (ct (.i .i64 4)) q111) <|
 pickK (gt q108) (gt q111) (ct (.b false)) q112 <|
 mvK (gt q112) q113 <|
 gK q113 true q114 (mvK (gt q10) q114) <|
 gK q113 true q115 (iaK 1 (gt q114) (ct (.i .i64 0)) q115) <|
 gK q113 true q116 (ld1K (gt q115) q116) <|
 gK q113 true q117 (lensK (gt q116) q117) <|
 gK q113 true q118 (arK eqlV (gt q117) (ct (.i .i64 0)) q118) <|
 pickK (gt q113) (gt q118) (ct (.b false)) q119 <|
 mvK (gt q119) q120 <|
 gK q120 true q121 (mvK (gt q10) q121) <|
 gK q120 true q122 (iaK 1 (gt q121) (ct (.i .i64 1)) q122) <|
 gK q120 true q123 (ld1K (gt q122) q123) <|
 gK q120 true q124 (rK (evBuild [(.i .i64 0), (.i .i64 0)] [(0, 1)]) [(ct (.i .i64 3))] q124) <|
 gK q120 true q125 (aK (alRows 1 2) [(gt q124)] q125) <|
 gK q120 true q126 (callK q40 [(gt q123), (gt q125)] q126) <|
 pickK (gt q120) (gt q126) (ct (.b false)) q127 <|
 mvK (gt q127) q128 <|
 gK q128 true q129 (mvK (gt q10) q129) <|
 gK q128 true q130 (iaK 1 (gt q129) (ct (.i .i64 2)) q130) <|
 gK q128 true q131 (ld1K (gt q130) q131) <|
 gK q128 true q132 (rK (evBuild [(.i .i64 0), (.i .i64 0)] [(0, 1), (1, 1)]) [(ct (.i .i64 3)), (ct (.i .i64 1))] q132) <|
 gK q128 true q133 (aK (alRows 1 2) [(gt q132)] q133) <|
 gK q128 true q134 (callK q40 [(gt q131), (gt q133)] q134) <|
 pickK (gt q128) (gt q134) (ct (.b false)) q135 <|
 mvK (gt q135) q136 <|
 gK q136 true q137 (mvK (gt q10) q137) <|
 gK q136 true q138 (iaK 1 (gt q137) (ct (.i .i64 3)) q138) <|
 gK q136 true q139 (ld1K (gt q138) q139) <|
 gK q136 true q140 (rK (evBuild [(.i .i64 0), (.i .i64 0)] [(0, 1), (1, 1)]) [(ct (.i .i64 3)), (ct (.i .i64 2))] q140) <|
 gK q136 true q141 (aK (alRows 1 2) [(gt q140)] q141) <|
 gK q136 true q142 (callK q40 [(gt q139), (gt q141)] q142) <|
 pickK (gt q136) (gt q142) (ct (.b false)) q143 <|
 mvK (gt q143) q0 <|
 retK⟩
theorem ft17 : (compFn P9 Z9 17).map fastFn = some fn17 := by kernel_rfl
noncomputable def fn20 : FFn := ⟨[.cell q4 7, .t q5],
 boxK (gt q1) q3 <|
 alK [.sn, .sn, (.i .i64 0), (.i .i64 0), (.i .i64 0), (.i .i64 0), .sn] 7 q4 <|
 mvK (ct (.i .i64 0)) q5 <|
 mvK (gt q0) q9 <|
 ldK 2 (gt q3) q10 <|
 callK q63 [(gt q9), (gt q10)] q11 <|
 mvK (gt q11) q8 <|
 extK 0 (gt q8) q12 <|
 extK 1 (gt q8) q13 <|
 mvK (gt q12) q6 <|
 mvK (gt q13) q7 <|
 mvK (gt q7) q14 <|
 arK neqV (gt q14) (ct (.i .i64 0)) q15 <|
 condK (gt q15) (rK (evBuild [.sn, .sn, (.i .i64 0), (.i .i64 0), (.i .i64 0), (.i .i64 0), .sn] []) [] q16 <|
 mvK (gt q7) q17 <|
 stK 7 (gt q4) (gt q16) <|
 mvK (gt q17) q5 <|
 retK) (fin) <|
 mvK (gt q6) q18 <|
 callK q64 [(gt q18)] q19 <|
 extK 0 (gt q19) q20 <|
 extK 1 (gt q19) q21 <|
 stK 7 (gt q4) (gt q20) <|
 mvK (gt q21) q5 <|
 retK⟩
theorem ft20 : (compFn P9 Z9 20).map fastFn = some fn20 := by kernel_rfl
noncomputable def fn25 : FFn := ⟨[.cell q6 7, .t q7, .t q8],
 boxK (gt q1) q4 <|
 alK [.sn, .sn, (.i .i64 0), (.i .i64 0), (.i .i64 0), (.i .i64 0), .sn] 7 q6 <|
 mvK (ct .sn) q7 <|
 mvK (ct (.i .i64 0)) q8 <|
 mvK (gt q0) q13 <|
 callK q68 [(gt q13)] q14 <|
 mvK (gt q14) q9 <|
 mvK (gt q9) q15 <|
 arK neqV (gt q15) (ct (.i .i64 0)) q16 <|
 condK (gt q16) (ldK 7 (gt q6) q17 <|
 mvK (gt q9) q18 <|
 stK 7 (gt q6) (gt q17) <|
 mvK (ct .sn) q7 <|
 mvK (gt q18) q8 <|
 retK) (fin) <|
 mvK (gt q2) q19 <|
 callK q69 [(gt q19), (ct (.f q70 []))] q20 <|
 condK (gt q20) (ldK 7 (gt q6) q21 <|
 stK 7 (gt q6) (gt q21) <|
 mvK (ct .sn) q7 <|
 mvK (ct (.i .i64 3)) q8 <|
 retK) (fin) <|
 mvK (gt q0) q23 <|
 ldK 2 (gt q4) q24 <|
 callK q71 [(gt q23), (gt q24)] q25 <|
 mvK (gt q25) q22 <|
 extK 0 (gt q22) q26 <|
 extK 1 (gt q22) q27 <|
 mvK (gt q26) q10 <|
 mvK (gt q27) q8 <|
 blockK 0 (loopK (mvK (gt q8) q28 <|
 arK eqlV (gt q28) (ct (.i .i64 0)) q29 <|
 condK (gt q29) (fin) (exitK 0) <|
 blockK 1 (mvK (gt q10) q30 <|
 callK q72 [(gt q30)] q31 <|
 mvK (gt q31) q11 <|
 mvK (gt q11) q32 <|
 lensK (gt q32) q33 <|
 arK eqlV (gt q33) (ct (.i .i64 0)) q34 <|
 condK (gt q34) (exitK 0) (fin) <|
 mvK (gt q11) q35 <|
 iaK 2 (gt q35) (ct (.i .i64 0)) q36 <|
 ldK 2 (gt q36) q37 <|
 alK [(.i .i64 0), (.i .i64 0)] 2 q12 <|
 stK 2 (gt q12) (gt q37) <|
 mvK (gt q10) q38 <|
 nilckK (gt q38) q39 <|
 faK 5 (gt q39) q40 <|
 ld1K (gt q40) q41 <|
 mvK (gt q2) q42 <|
 lensK (gt q42) q43 <|
 arK lssV (gt q41) (gt q43) q44 <|
 condK (gt q44) (mvK (gt q11) q45 <|
 mvK (gt q2) q46 <|
 mvK (gt q10) q47 <|
 nilckK (gt q47) q48 <|
 faK 5 (gt q48) q49 <|
 ld1K (gt q49) q50 <|
 iaK 1 (gt q46) (gt q50) q51 <|
 ld1K (gt q51) q52 <|
 mvK (gt q11) q53 <|
 lensK (gt q53) q54 <|
 rK (evBin .rem) [(gt q52), (gt q54)] q55 <|
 iaK 2 (gt q45) (gt q55) q56 <|
 ldK 2 (gt q56) q57 <|
 stK 2 (gt q12) (gt q57) <|
 fin) (fin) <|
 mvK (gt q7) q58 <|
 ldK 2 (gt q12) q59 <|
 aK (alRows 1 2) [(gt q59)] q60 <|
 eK (efApp 2 16) [(gt q58), (gt q60)] q61 <|
 mvK (gt q61) q7 <|
 mvK (gt q10) q62 <|
 nilckK (gt q62) q63 <|
 faK 4 (gt q63) q64 <|
 ld1K (gt q64) q65 <|
 arK addV (gt q65) (ct (.i .i64 1)) q66 <|
 nilckK (gt q62) q67 <|
 faK 4 (gt q67) q68 <|
 stK 1 (gt q68) (gt q66) <|
 mvK (gt q10) q69 <|
 rdD 1 0 (.ld 2) [(gt q12)] q70 <|
 mvK (gt q10) q71 <|
 nilckK (gt q71) q72 <|
 faK 4 (gt q72) q73 <|
 ld1D 5 28 (gt q73) q74 <|
 efD 6 ⟨(some q75), .call (.c (.f q73 [])) [.t q69, .t q70, .t q74], none, 63, false⟩ <|
 mvK (gt q75) q8 <|
 endD <|
 mvK (gt q8) q76 <|
 arK eqlV (gt q76) (ct (.i .i64 0)) q77 <|
 condK (gt q77) (mvK (gt q10) q78 <|
 callK q74 [(gt q78)] q79 <|
 mvK (gt q79) q8 <|
 fin) (fin) <|
 fin) <|
 fin) <|
 fin) <|
 mvK (gt q8) q80 <|
 arK eqlV (gt q80) (ct (.i .i64 0)) q81 <|
 condK (gt q81) (mvK (gt q10) q83 <|
 callK q64 [(gt q83)] q84 <|
 mvK (gt q84) q82 <|
 extK 0 (gt q82) q85 <|
 extK 1 (gt q82) q86 <|
 stK 7 (gt q6) (gt q85) <|
 mvK (gt q86) q8 <|
 fin) (fin) <|
 mvK (gt q8) q87 <|
 arK neqV (gt q87) (ct (.i .i64 0)) q88 <|
 condK (gt q88) (rK (evBuild [.sn, .sn, (.i .i64 0), (.i .i64 0), (.i .i64 0), (.i .i64 0), .sn] []) [] q89 <|
 mvK (gt q8) q90 <|
 stK 7 (gt q6) (gt q89) <|
 mvK (ct .sn) q7 <|
 mvK (gt q90) q8 <|
 retK) (fin) <|
 ldK 7 (gt q6) q91 <|
 mvK (gt q7) q92 <|
 stK 7 (gt q6) (gt q91) <|
 mvK (gt q92) q7 <|
 mvK (ct (.i .i64 0)) q8 <|
 retK⟩
theorem ft25 : (compFn P9 Z9 25).map fastFn = some fn25 := by kernel_rfl
noncomputable def fn29 : FFn := ⟨[.t q4],
 boxK (gt q0) q2 <|
 boxK (gt q1) q3 <|
 mvK (ct (.b false)) q4 <|
 faK 0 (gt q2) q6 <|
 ldK 2 (gt q6) q7 <|
 faK 0 (gt q3) q8 <|
 ldK 2 (gt q8) q9 <|
 callK q41 [(gt q7), (gt q9)] q10 <|
 notK (gt q10) q11 <|
 mvK (gt q11) q12 <|
 gK q12 false q13 (faK 2 (gt q2) q13) <|
 gK q12 false q14 (ld1K (gt q13) q14) <|
 gK q12 false q15 (faK 2 (gt q3) q15) <|
 gK q12 false q16 (ld1K (gt q15) q16) <|
 gK q12 false q17 (arK neqV (gt q14) (gt q16) q17) <|
 pickK (gt q12) (ct (.b true)) (gt q17) q18 <|
 mvK (gt q18) q19 <|
 gK q19 false q20 (faK 3 (gt q2) q20) <|
 gK q19 false q21 (ld1K (gt q20) q21) <|
 gK q19 false q22 (faK 3 (gt q3) q22) <|
 gK q19 false q23 (ld1K (gt q22) q23) <|
 gK q19 false q24 (arK neqV (gt q21) (gt q23) q24) <|
 pickK (gt q19) (ct (.b true)) (gt q24) q25 <|
 mvK (gt q25) q26 <|
 gK q26 false q27 (faK 4 (gt q2) q27) <|
 gK q26 false q28 (ld1K (gt q27) q28) <|
 gK q26 false q29 (faK 4 (gt q3) q29) <|
 gK q26 false q30 (ld1K (gt q29) q30) <|
 gK q26 false q31 (arK neqV (gt q28) (gt q30) q31) <|
 pickK (gt q26) (ct (.b true)) (gt q31) q32 <|
 mvK (gt q32) q33 <|
 gK q33 false q34 (faK 6 (gt q2) q34) <|
 gK q33 false q35 (ld1K (gt q34) q35) <|
 gK q33 false q36 (lensK (gt q35) q36) <|
 gK q33 false q37 (faK 6 (gt q3) q37) <|
 gK q33 false q38 (ld1K (gt q37) q38) <|
 gK q33 false q39 (lensK (gt q38) q39) <|
 gK q33 false q40 (arK neqV (gt q36) (gt q39) q40) <|
 pickK (gt q33) (ct (.b true)) (gt q40) q41 <|
 condK (gt q41) (mvK (ct (.b false)) q4 <|
 retK) (fin) <|
 mvK (ct (.i .i64 0)) q5 <|
 blockK 0 (loopK (mvK (gt q5) q42 <|
 faK 6 (gt q2) q43 <|
 ld1K (gt q43) q44 <|
 lensK (gt q44) q45 <|
 arK lssV (gt q42) (gt q45) q46 <|
 condK (gt q46) (fin) (exitK 0) <|
 blockK 1 (faK 6 (gt q2) q49 <|
 ld1D 1 1 (gt q49) q50 <|
 mvK (gt q5) q51 <|
 iaK 2 (gt q50) (gt q51) q52 <|
 faK 1 (gt q52) q53 <|
 ld1D 5 31 (gt q53) q54 <|
 faK 6 (gt q3) q55 <|
 ld1D 7 64 (gt q55) q56 <|
 mvK (gt q5) q57 <|
 iaK 2 (gt q56) (gt q57) q58 <|
 faK 1 (gt q58) q59 <|
 ld1D 11 1984 (gt q59) q60 <|
 arK neqV (gt q54) (gt q60) q61 <|
 mvK (gt q61) q62 <|
 gK q62 false q63 (faK 6 (gt q2) q63) <|
 gK q62 false q64 (ld1D 15 32767 (gt q63) q64) <|
 gK q62 false q65 (mvK (gt q5) q65) <|
 gK q62 false q66 (iaK 2 (gt q64) (gt q65) q66) <|
 gK q62 false q67 (faK 0 (gt q66) q67) <|
 gK q62 false q68 (ld1D 19 524287 (gt q67) q68) <|
 gK q62 false q69 (faK 6 (gt q3) q69) <|
 gK q62 false q70 (ld1D 21 1064959 (gt q69) q70) <|
 gK q62 false q71 (mvK (gt q5) q71) <|
 gK q62 false q72 (iaK 2 (gt q70) (gt q71) q72) <|
 gK q62 false q73 (faK 0 (gt q72) q73) <|
 gK q62 false q74 (ld1D 25 32522239 (gt q73) q74) <|
 gK q62 false q75 (efD 26 ⟨(some q75), .call (.c (.f q40 [])) [.t q68, .t q74], (some (q62, false)), 67108863, false⟩) <|
 gK q62 false q76 (notK (gt q75) q76) <|
 pickK (gt q62) (ct (.b true)) (gt q76) q77 <|
 endD <|
 condK (gt q77) (mvK (ct (.b false)) q4 <|
 retK) (fin) <|
 fin) <|
 mvK (gt q5) q47 <|
 arK addV (gt q47) (ct (.i .i64 1)) q48 <|
 mvK (gt q48) q5 <|
 fin) <|
 fin) <|
 mvK (ct (.b true)) q4 <|
 retK⟩
theorem ft29 : (compFn P9 Z9 29).map fastFn = some fn29 := by kernel_rfl
noncomputable def fn30 : FFn := ⟨[.t q4],
 boxK (gt q0) q2 <|
 boxK (gt q1) q3 <|
 mvK (ct (.b false)) q4 <|
 faK 0 (gt q2) q7 <|
 faK 0 (gt q7) q8 <|
 ld1K (gt q8) q9 <|
 faK 0 (gt q3) q10 <|
 faK 0 (gt q10) q11 <|
 ld1K (gt q11) q12 <|
 callK q80 [(gt q9), (gt q12)] q13 <|
 mvK (gt q13) q14 <|
 gK q14 true q15 (faK 0 (gt q2) q15) <|
 gK q14 true q16 (faK 1 (gt q15) q16) <|
 gK q14 true q17 (ld1K (gt q16) q17) <|
 gK q14 true q18 (faK 0 (gt q3) q18) <|
 gK q14 true q19 (faK 1 (gt q18) q19) <|
 gK q14 true q20 (ld1K (gt q19) q20) <|
 gK q14 true q21 (callK q81 [(gt q17), (gt q20), (ct (.f q80 []))] q21) <|
 pickK (gt q14) (gt q21) (ct (.b false)) q22 <|
 mvK (gt q22) q5 <|
 faK 6 (gt q2) q23 <|
 ld1K (gt q23) q24 <|
 faK 6 (gt q3) q25 <|
 ld1K (gt q25) q26 <|
 callK q82 [(gt q24), (gt q26), (ct (.f q83 []))] q27 <|
 mvK (gt q27) q6 <|
 mvK (gt q5) q28 <|
 mvK (gt q28) q29 <|
 gK q29 true q30 (mvK (gt q6) q30) <|
 pickK (gt q29) (gt q30) (ct (.b false)) q31 <|
 mvK (gt q31) q32 <|
 gK q32 true q33 (faK 2 (gt q2) q33) <|
 gK q32 true q34 (ld1K (gt q33) q34) <|
 gK q32 true q35 (faK 2 (gt q3) q35) <|
 gK q32 true q36 (ld1K (gt q35) q36) <|
 gK q32 true q37 (arK eqlV (gt q34) (gt q36) q37) <|
 pickK (gt q32) (gt q37) (ct (.b false)) q38 <|
 mvK (gt q38) q39 <|
 gK q39 true q40 (faK 3 (gt q2) q40) <|
 gK q39 true q41 (ld1K (gt q40) q41) <|
 gK q39 true q42 (faK 3 (gt q3) q42) <|
 gK q39 true q43 (ld1K (gt q42) q43) <|
 gK q39 true q44 (arK eqlV (gt q41) (gt q43) q44) <|
 pickK (gt q39) (gt q44) (ct (.b false)) q45 <|
 mvK (gt q45) q46 <|
 gK q46 true q47 (faK 4 (gt q2) q47) <|
 gK q46 true q48 (ld1K (gt q47) q48) <|
 gK q46 true q49 (faK 4 (gt q3) q49) <|
 gK q46 true q50 (ld1K (gt q49) q50) <|
 gK q46 true q51 (arK eqlV (gt q48) (gt q50) q51) <|
 pickK (gt q46) (gt q51) (ct (.b false)) q52 <|
 mvK (gt q52) q4 <|
 retK⟩
theorem ft30 : (compFn P9 Z9 30).map fastFn = some fn30 := by kernel_rfl
noncomputable def fn36 : FFn := ⟨[.t q4, .t q5],
 boxK (gt q1) q3 <|
 mvK (ct .sn) q4 <|
 mvK (ct (.i .i64 0)) q5 <|
 mvK (gt q0) q9 <|
 ldK 2 (gt q3) q10 <|
 callK q63 [(gt q9), (gt q10)] q11 <|
 mvK (gt q11) q8 <|
 extK 0 (gt q8) q12 <|
 extK 1 (gt q8) q13 <|
 mvK (gt q12) q6 <|
 mvK (gt q13) q5 <|
 mvK (gt q5) q14 <|
 arK neqV (gt q14) (ct (.i .i64 0)) q15 <|
 condK (gt q15) (mvK (gt q5) q16 <|
 mvK (ct .sn) q4 <|
 mvK (gt q16) q5 <|
 retK) (fin) <|
 mvK (gt q6) q17 <|
 nilckK (gt q17) q18 <|
 faK 2 (gt q18) q19 <|
 ld1K (gt q19) q20 <|
 lensK (gt q20) q21 <|
 mvK (ct (.i .i64 0)) q22 <|
 blockK 0 (loopK (arK lssV (gt q22) (gt q21) q23 <|
 condK (gt q23) (fin) (exitK 0) <|
 blockK 1 (mvK (gt q22) q24 <|
 mvK (gt q24) q7 <|
 mvK (gt q4) q25 <|
 mvK (gt q6) q26 <|
 mvK (gt q7) q27 <|
 callK q88 [(gt q26), (gt q27)] q28 <|
 aK (alRows 1 1) [(gt q28)] q29 <|
 eK (efApp 1 24) [(gt q25), (gt q29)] q30 <|
 mvK (gt q30) q4 <|
 fin) <|
 arK addV (gt q22) (ct (.i .i64 1)) q31 <|
 mvK (gt q31) q22 <|
 fin) <|
 fin) <|
 mvK (gt q4) q32 <|
 mvK (gt q32) q4 <|
 mvK (ct (.i .i64 0)) q5 <|
 retK⟩
theorem ft36 : (compFn P9 Z9 36).map fastFn = some fn36 := by kernel_rfl
noncomputable def fn40 : FFn := ⟨[.t q4],
 mvK (ct (.b false)) q4 <|
 mvK (gt q0) q6 <|
 lensK (gt q6) q7 <|
 mvK (gt q1) q8 <|
 lensK (gt q8) q9 <|
 arK neqV (gt q7) (gt q9) q10 <|
 condK (gt q10) (mvK (ct (.b false)) q4 <|
 retK) (fin) <|
 mvK (ct (.i .i64 0)) q5 <|
 blockK 0 (loopK (mvK (gt q5) q11 <|
 mvK (gt q0) q12 <|
 lensK (gt q12) q13 <|
 arK lssV (gt q11) (gt q13) q14 <|
 condK (gt q14) (fin) (exitK 0) <|
 blockK 1 (mvK (gt q0) q17 <|
 mvK (gt q5) q18 <|
 iaK 2 (gt q17) (gt q18) q19 <|
 rdD 3 7 (.ld 2) [(gt q19)] q20 <|
 mvK (gt q1) q21 <|
 mvK (gt q5) q22 <|
 iaK 2 (gt q21) (gt q22) q23 <|
 rdD 7 112 (.ld 2) [(gt q23)] q24 <|
 rK (evEqa true [0, 0]) [(gt q20), (gt q24)] q25 <|
 endD <|
 condK (gt q25) (mvK (ct (.b false)) q4 <|
 retK) (fin) <|
 fin) <|
 mvK (gt q5) q15 <|
 arK addV (gt q15) (ct (.i .i64 1)) q16 <|
 mvK (gt q16) q5 <|
 fin) <|
 fin) <|
 mvK (ct (.b true)) q4 <|
 retK⟩
theorem ft40 : (compFn P9 Z9 40).map fastFn = some fn40 := by kernel_rfl
noncomputable def fn41 : FFn := ⟨[.t q4],
 boxK (gt q0) q2 <|
 boxK (gt q1) q3 <|
 mvK (ct (.b false)) q4 <|
 faK 0 (gt q2) q6 <|
 ld1K (gt q6) q7 <|
 faK 0 (gt q3) q8 <|
 ld1K (gt q8) q9 <|
 callK q96 [(gt q7), (gt q9)] q10 <|
 notK (gt q10) q11 <|
 mvK (gt q11) q12 <|
 gK q12 false q13 (faK 1 (gt q2) q13) <|
 gK q12 false q14 (ld1K (gt q13) q14) <|
 gK q12 false q15 (lensK (gt q14) q15) <|
 gK q12 false q16 (faK 1 (gt q3) q16) <|
 gK q12 false q17 (ld1K (gt q16) q17) <|
 gK q12 false q18 (lensK (gt q17) q18) <|
 gK q12 false q19 (arK neqV (gt q15) (gt q18) q19) <|
 pickK (gt q12) (ct (.b true)) (gt q19) q20 <|
 condK (gt q20) (mvK (ct (.b false)) q4 <|
 retK) (fin) <|
 mvK (ct (.i .i64 0)) q5 <|
 blockK 0 (loopK (mvK (gt q5) q21 <|
 faK 1 (gt q2) q22 <|
 ld1K (gt q22) q23 <|
 lensK (gt q23) q24 <|
 arK lssV (gt q21) (gt q24) q25 <|
 condK (gt q25) (fin) (exitK 0) <|
 blockK 1 (faK 1 (gt q2) q28 <|
 ld1D 1 1 (gt q28) q29 <|
 mvK (gt q5) q30 <|
 iaK 1 (gt q29) (gt q30) q31 <|
 ld1D 4 15 (gt q31) q32 <|
 faK 1 (gt q3) q33 <|
 ld1D 6 32 (gt q33) q34 <|
 mvK (gt q5) q35 <|
 iaK 1 (gt q34) (gt q35) q36 <|
 ld1D 9 480 (gt q36) q37 <|
 efD 10 ⟨(some q38), .call (.c (.f q96 [])) [.t q32, .t q37], none, 1023, false⟩ <|
 notK (gt q38) q39 <|
 endD <|
 condK (gt q39) (mvK (ct (.b false)) q4 <|
 retK) (fin) <|
 fin) <|
 mvK (gt q5) q26 <|
 arK addV (gt q26) (ct (.i .i64 1)) q27 <|
 mvK (gt q27) q5 <|
 fin) <|
 fin) <|
 mvK (ct (.b true)) q4 <|
 retK⟩
theorem ft41 : (compFn P9 Z9 41).map fastFn = some fn41 := by kernel_rfl
noncomputable def fn48 : FFn := ⟨[.t q0],
 mvK (ct .sn) q0 <|
 mvK (ct (.f q102 [])) q1 <|
 mvK (ct (.f q103 [])) q2 <|
 mvK (ct (.f q104 [])) q3 <|
 mvK (gt q3) q6 <|
 mvK (gt q1) q7 <|
 dynK (gt q7) [(ct (.i .i64 0))] q8 <|
 aK (alRows 1 2) [(gt q8)] q9 <|
 dynK (gt q6) [(ct (.i .u8 1)), (ct (.s [])), (ct (.i .i64 0)), (gt q9)] q10 <|
 mvK (gt q3) q11 <|
 mvK (gt q1) q12 <|
 dynK (gt q12) [(ct (.i .i64 1))] q13 <|
 mvK (gt q2) q14 <|
 dynK (gt q14) [(ct (.i .i64 0))] q15 <|
 aK (alRows 2 2) [(gt q13), (gt q15)] q16 <|
 dynK (gt q11) [(ct (.i .u8 12)), (ct (.s [])), (ct (.i .i64 0)), (gt q16)] q17 <|
 mvK (gt q3) q18 <|
 mvK (gt q1) q19 <|
 dynK (gt q19) [(ct (.i .i64 0))] q20 <|
 aK (alRows 1 2) [(gt q20)] q21 <|
 dynK (gt q18) [(ct (.i .u8 1)), (ct (.s [])), (ct (.i .i64 1)), (gt q21)] q22 <|
 mvK (gt q3) q23 <|
 mvK (gt q1) q24 <|
 dynK (gt q24) [(ct (.i .i64 0))] q25 <|
 mvK (gt q2) q26 <|
 dynK (gt q26) [(ct (.i .i64 1))] q27 <|
 mvK (gt q2) q28 <|
 dynK (gt q28) [(ct (.i .i64 2))] q29 <|
 aK (alRows 3 2) [(gt q25), (gt q27), (gt q29)] q30 <|
 dynK (gt q23) [(ct (.i .u8 9)), (ct (.s [109, 97, 105, 110, 46, 48])), (ct (.i .i64 0)), (gt q30)] q31 <|
 aK (alRows 4 4) [(gt q10), (gt q17), (gt q22), (gt q31)] q32 <|
 mvK (gt q2) q33 <|
 dynK (gt q33) [(ct (.i .i64 3))] q34 <|
 aK (alRows 1 2) [(gt q34)] q35 <|
 rK (evBuild [(.s []), (.i .i64 0), .sn, .sn, .sn] [(0, 1), (1, 1), (2, 1), (4, 1)]) [(ct (.s [109, 97, 105, 110])), (ct (.i .i64 2)), (gt q32), (gt q35)] q36 <|
 alK [(.s []), (.i .i64 0), .sn, .sn, .sn] 5 q4 <|
 stK 5 (gt q4) (gt q36) <|
 mvK (gt q3) q37 <|
 mvK (gt q1) q38 <|
 dynK (gt q38) [(ct (.i .i64 0))] q39 <|
 aK (alRows 1 2) [(gt q39)] q40 <|
 dynK (gt q37) [(ct (.i .u8 1)), (ct (.s [])), (ct (.i .i64 0)), (gt q40)] q41 <|
 mvK (gt q3) q42 <|
 mvK (gt q2) q43 <|
 dynK (gt q43) [(ct (.i .i64 0))] q44 <|
 mvK (gt q1) q45 <|
 dynK (gt q45) [(ct (.i .i64 1))] q46 <|
 aK (alRows 2 2) [(gt q44), (gt q46)] q47 <|
 dynK (gt q42) [(ct (.i .u8 4)), (ct (.s [108, 116])), (ct (.i .i64 0)), (gt q47)] q48 <|
 mvK (gt q3) q49 <|
 mvK (gt q2) q50 <|
 dynK (gt q50) [(ct (.i .i64 1))] q51 <|
 mvK (gt q1) q52 <|
 dynK (gt q52) [(ct (.i .i64 0))] q53 <|
 aK (alRows 2 2) [(gt q51), (gt q53)] q54 <|
 dynK (gt q49) [(ct (.i .u8 5)), (ct (.s [])), (ct (.i .i64 0)), (gt q54)] q55 <|
 mvK (gt q3) q56 <|
 mvK (gt q2) q57 <|
 dynK (gt q57) [(ct (.i .i64 1))] q58 <|
 mvK (gt q1) q59 <|
 dynK (gt q59) [(ct (.i .i64 1))] q60 <|
 aK (alRows 2 2) [(gt q58), (gt q60)] q61 <|
 dynK (gt q56) [(ct (.i .u8 5)), (ct (.s [])), (ct (.i .i64 0)), (gt q61)] q62 <|
 mvK (gt q3) q63 <|
 mvK (gt q2) q64 <|
 dynK (gt q64) [(ct (.i .i64 1))] q65 <|
 mvK (gt q1) q66 <|
 dynK (gt q66) [(ct (.i .i64 2))] q67 <|
 aK (alRows 2 2) [(gt q65), (gt q67)] q68 <|
 dynK (gt q63) [(ct (.i .u8 5)), (ct (.s [])), (ct (.i .i64 0)), (gt q68)] q69 <|
 mvK (gt q3) q70 <|
 mvK (gt q2) q71 <|
 dynK (gt q71) [(ct (.i .i64 2))] q72 <|
 aK (alRows 1 2) [(gt q72)] q73 <|
 dynK (gt q70) [(ct (.i .u8 1)), (ct (.s [])), (ct (.i .i64 1)), (gt q73)] q74 <|
 mvK (gt q3) q75 <|
 mvK (gt q2) q76 <|
 dynK (gt q76) [(ct (.i .i64 3))] q77 <|
 mvK (gt q2) q78 <|
 dynK (gt q78) [(ct (.i .i64 5))] q79 <|
 aK (alRows 2 2) [(gt q77), (gt q79)] q80 <|
 dynK (gt q75) [(ct (.i .u8 4)), (ct (.s [115, 117, 98])), (ct (.i .i64 0)), (gt q80)] q81 <|
 mvK (gt q3) q82 <|
 mvK (gt q2) q83 <|
 dynK (gt q83) [(ct (.i .i64 4))] q84 <|
 mvK (gt q2) q85 <|
 dynK (gt q85) [(ct (.i .i64 4))] q86 <|
 aK (alRows 2 2) [(gt q84), (gt q86)] q87 <|
 dynK (gt q82) [(ct (.i .u8 4)), (ct (.s [97, 100, 100])), (ct (.i .i64 0)), (gt q87)] q88 <|
 aK (alRows 8 4) [(gt q41), (gt q48), (gt q55), (gt q62), (gt q69), (gt q74), (gt q81), (gt q88)] q89 <|
 mvK (gt q2) q90 <|
 dynK (gt q90) [(ct (.i .i64 2))] q91 <|
 mvK (gt q2) q92 <|
 dynK (gt q92) [(ct (.i .i64 6))] q93 <|
 mvK (gt q2) q94 <|
 dynK (gt q94) [(ct (.i .i64 7))] q95 <|
 aK (alRows 3 2) [(gt q91), (gt q93), (gt q95)] q96 <|
 rK (evBuild [(.i .i64 0), (.i .i64 0)] [(0, 1), (1, 1)]) [(ct (.i .i64 4)), (ct (.i .i64 1))] q97 <|
 aK (alRows 1 2) [(gt q97)] q98 <|
 rK (evBuild [(.s []), (.i .i64 0), .sn, .sn, .sn] [(0, 1), (1, 1), (2, 1), (3, 1), (4, 1)]) [(ct (.s [109, 97, 105, 110, 46, 48])), (ct (.i .i64 3)), (gt q89), (gt q96), (gt q98)] q99 <|
 alK [(.s []), (.i .i64 0), .sn, .sn, .sn] 5 q5 <|
 stK 5 (gt q5) (gt q99) <|
 ldK 5 (gt q4) q100 <|
 ldK 5 (gt q5) q101 <|
 aK (alRows 2 5) [(gt q100), (gt q101)] q102 <|
 mvK (gt q102) q0 <|
 retK⟩
theorem ft48 : (compFn P9 Z9 48).map fastFn = some fn48 := by kernel_rfl
noncomputable def fn49 : FFn := ⟨[.cell q4 2],
 alK [.sn, .sn] 2 q4 <|
 aK (alRows 0 1) [] q5 <|
 mvK (gt q1) q6 <|
 eK (efApp 1 8) [(gt q5), (gt q6)] q7 <|
 aK (alRows 1 1) [(gt q7)] q8 <|
 mvK (gt q0) q9 <|
 aK (alRows 1 1) [(gt q9)] q10 <|
 rK (evBuild [.sn, .sn] [(0, 1), (1, 1)]) [(gt q8), (gt q10)] q11 <|
 stK 2 (gt q4) (gt q11) <|
 retK⟩
theorem ft49 : (compFn P9 Z9 49).map fastFn = some fn49 := by kernel_rfl
noncomputable def fn50 : FFn := ⟨[.cell q2 2],
 alK [(.i .u8 0), (.i .i64 0)] 2 q2 <|
 mvK (gt q0) q3 <|
 rK (evBuild [(.i .u8 0), (.i .i64 0)] [(0, 1), (1, 1)]) [(ct (.i .u8 1)), (gt q3)] q4 <|
 stK 2 (gt q2) (gt q4) <|
 retK⟩
theorem ft50 : (compFn P9 Z9 50).map fastFn = some fn50 := by kernel_rfl
noncomputable def fn61 : FFn := ⟨[.t q10],
 boxK (gt q0) q5 <|
 boxK (gt q1) q6 <|
 mvK (ct (.b false)) q10 <|
 faK 0 (gt q5) q11 <|
 ldK 2 (gt q11) q12 <|
 ldK 2 (gt q6) q13 <|
 aK (alRows 1 2) [(gt q13)] q14 <|
 rK (evBuild [.sn, .sn] [(0, 1)]) [(gt q14)] q15 <|
 callK q41 [(gt q12), (gt q15)] q16 <|
 mvK (gt q16) q17 <|
 gK q17 true q18 (faK 2 (gt q5) q18) <|
 gK q17 true q19 (ld1K (gt q18) q19) <|
 gK q17 true q20 (mvK (gt q2) q20) <|
 gK q17 true q21 (arK eqlV (gt q19) (gt q20) q21) <|
 pickK (gt q17) (gt q21) (ct (.b false)) q22 <|
 mvK (gt q22) q23 <|
 gK q23 true q24 (faK 3 (gt q5) q24) <|
 gK q23 true q25 (ld1K (gt q24) q25) <|
 gK q23 true q26 (mvK (gt q3) q26) <|
 gK q23 true q27 (arK eqlV (gt q25) (gt q26) q27) <|
 pickK (gt q23) (gt q27) (ct (.b false)) q28 <|
 mvK (gt q28) q29 <|
 gK q29 true q30 (faK 4 (gt q5) q30) <|
 gK q29 true q31 (ld1K (gt q30) q31) <|
 gK q29 true q32 (mvK (gt q4) q32) <|
 gK q29 true q33 (arK eqlV (gt q31) (gt q32) q33) <|
 pickK (gt q29) (gt q33) (ct (.b false)) q34 <|
 mvK (gt q34) q35 <|
 gK q35 true q36 (faK 6 (gt q5) q36) <|
 gK q35 true q37 (ld1K (gt q36) q37) <|
 gK q35 true q38 (lensK (gt q37) q38) <|
 gK q35 true q39 (arK eqlV (gt q38) (ct (.i .i64 0)) q39) <|
 pickK (gt q35) (gt q39) (ct (.b false)) q40 <|
 mvK (gt q40) q10 <|
 retK⟩
theorem ft61 : (compFn P9 Z9 61).map fastFn = some fn61 := by kernel_rfl
noncomputable def fn63 : FFn := ⟨[.t q4, .t q5],
 boxK (gt q1) q3 <|
 mvK (ct .pn) q4 <|
 mvK (ct (.i .i64 0)) q5 <|
 mvK (gt q0) q9 <|
 ldK 2 (gt q3) q10 <|
 callK q71 [(gt q9), (gt q10)] q11 <|
 mvK (gt q11) q8 <|
 extK 0 (gt q8) q12 <|
 extK 1 (gt q8) q13 <|
 mvK (gt q12) q6 <|
 mvK (gt q13) q7 <|
 mvK (gt q7) q14 <|
 arK eqlV (gt q14) (ct (.i .i64 0)) q15 <|
 condK (gt q15) (mvK (gt q6) q16 <|
 callK q97 [(gt q16), (ct (.i .i64 6001))] q17 <|
 mvK (gt q17) q7 <|
 fin) (fin) <|
 mvK (gt q7) q18 <|
 arK neqV (gt q18) (ct (.i .i64 0)) q19 <|
 condK (gt q19) (mvK (gt q7) q20 <|
 mvK (ct .pn) q4 <|
 mvK (gt q20) q5 <|
 retK) (fin) <|
 mvK (gt q6) q21 <|
 mvK (gt q21) q4 <|
 mvK (ct (.i .i64 0)) q5 <|
 retK⟩
theorem ft63 : (compFn P9 Z9 63).map fastFn = some fn63 := by kernel_rfl
noncomputable def fn64 : FFn := ⟨[.cell q2 7, .t q3],
 alK [.sn, .sn, (.i .i64 0), (.i .i64 0), (.i .i64 0), (.i .i64 0), .sn] 7 q2 <|
 mvK (ct (.i .i64 0)) q3 <|
 mvK (gt q0) q7 <|
 nilckK (gt q7) q8 <|
 faK 2 (gt q8) q9 <|
 ld1K (gt q9) q10 <|
 iaK 1 (gt q10) (ct (.i .i64 0)) q11 <|
 ld1K (gt q11) q12 <|
 mvK (gt q12) q4 <|
 mvK (gt q0) q14 <|
 nilckK (gt q14) q15 <|
 faK 3 (gt q15) q16 <|
 rdD 3 7 (.ld 1) [(gt q16)] q17 <|
 mvK (gt q4) q18 <|
 mvK (gt q0) q19 <|
 nilckK (gt q19) q20 <|
 faK 0 (gt q20) q21 <|
 ld1D 8 224 (gt q21) q22 <|
 mvK (gt q4) q23 <|
 nilckK (gt q23) q24 <|
 faK 0 (gt q24) q25 <|
 faK 0 (gt q25) q26 <|
 ld1D 13 7680 (gt q26) q27 <|
 iaK 5 (gt q22) (gt q27) q28 <|
 faK 4 (gt q28) q29 <|
 ld1D 16 65504 (gt q29) q30 <|
 efD 17 ⟨(some q31), .call (.c (.f q118 [])) [.t q18, .t q30], none, 131056, false⟩ <|
 efD 18 ⟨(some q32), .call (.c (.f q91 [])) [.t q17, .t q31], none, 262143, false⟩ <|
 mvK (gt q32) q13 <|
 extK 0 (gt q13) q33 <|
 extK 1 (gt q13) q34 <|
 alK [.sn, .sn] 2 q5 <|
 efD 23 ⟨none, .ef (.st 2) [.t q5, .t q33], none, 6291455, false⟩ <|
 mvK (gt q34) q6 <|
 endD <|
 rdD 0 0 (.ld 2) [(gt q5)] q35 <|
 mvK (gt q0) q36 <|
 nilckK (gt q36) q37 <|
 faK 5 (gt q37) q38 <|
 ld1D 4 14 (gt q38) q39 <|
 mvK (gt q0) q40 <|
 nilckK (gt q40) q41 <|
 faK 2 (gt q41) q42 <|
 ld1D 8 224 (gt q42) q43 <|
 lensK (gt q43) q44 <|
 mvK (gt q0) q45 <|
 nilckK (gt q45) q46 <|
 faK 3 (gt q46) q47 <|
 faK 0 (gt q47) q48 <|
 ld1D 14 15360 (gt q48) q49 <|
 lensK (gt q49) q50 <|
 mvK (gt q0) q51 <|
 nilckK (gt q51) q52 <|
 faK 4 (gt q52) q53 <|
 ld1D 19 458752 (gt q53) q54 <|
 mvK (gt q0) q55 <|
 efD 21 ⟨(some q56), .call (.c (.f q119 [])) [.t q55], none, 1048576, false⟩ <|
 rK (evBuild [.sn, .sn, (.i .i64 0), (.i .i64 0), (.i .i64 0), (.i .i64 0), .sn] [(0, 2), (2, 1), (3, 1), (4, 1), (5, 1), (6, 1)]) [(gt q35), (gt q39), (gt q44), (gt q50), (gt q54), (gt q56)] q57 <|
 mvK (gt q6) q58 <|
 efD 24 ⟨none, .ef (.st 7) [.t q2, .t q57], none, 8388607, false⟩ <|
 mvK (gt q58) q3 <|
 endD <|
 retK⟩
theorem ft64 : (compFn P9 Z9 64).map fastFn = some fn64 := by kernel_rfl
noncomputable def fn68 : FFn := ⟨[.t q2],
 mvK (ct (.i .i64 0)) q2 <|
 mvK (gt q0) q6 <|
 callK q108 [(gt q6)] q7 <|
 mvK (gt q7) q5 <|
 extK 0 (gt q5) q8 <|
 extK 1 (gt q5) q9 <|
 mvK (gt q8) q3 <|
 mvK (gt q9) q4 <|
 mvK (gt q4) q10 <|
 mvK (gt q10) q2 <|
 retK⟩
theorem ft68 : (compFn P9 Z9 68).map fastFn = some fn68 := by kernel_rfl
noncomputable def fn69 : FFn := ⟨[.t q4],
 mvK (ct (.b false)) q4 <|
 mvK (gt q0) q5 <|
 mvK (gt q1) q6 <|
 callK q122 [(gt q5), (gt q6)] q7 <|
 arK geqV (gt q7) (ct (.i .i64 0)) q8 <|
 mvK (gt q8) q4 <|
 retK⟩
theorem ft69 : (compFn P9 Z9 69).map fastFn = some fn69 := by kernel_rfl
noncomputable def fn70 : FFn := ⟨[.t q2],
 mvK (ct (.b false)) q2 <|
 mvK (gt q0) q3 <|
 arK lssV (gt q3) (ct (.i .i64 0)) q4 <|
 mvK (gt q4) q2 <|
 retK⟩
theorem ft70 : (compFn P9 Z9 70).map fastFn = some fn70 := by kernel_rfl
noncomputable def fn71 : FFn := ⟨[.t q4, .t q5],
 boxK (gt q1) q3 <|
 mvK (ct .pn) q4 <|
 mvK (ct (.i .i64 0)) q5 <|
 mvK (gt q0) q14 <|
 callK q123 [(gt q14)] q15 <|
 mvK (gt q15) q13 <|
 extK 0 (gt q13) q16 <|
 extK 1 (gt q13) q17 <|
 mvK (gt q16) q6 <|
 mvK (gt q17) q7 <|
 mvK (gt q7) q18 <|
 arK eqlV (gt q18) (ct (.i .i64 0)) q19 <|
 condK (gt q19) (mvK (gt q6) q20 <|
 ldK 2 (gt q3) q21 <|
 callK q124 [(gt q20), (gt q21)] q22 <|
 mvK (gt q22) q7 <|
 fin) (fin) <|
 mvK (gt q7) q23 <|
 arK neqV (gt q23) (ct (.i .i64 0)) q24 <|
 condK (gt q24) (mvK (gt q7) q25 <|
 mvK (ct .pn) q4 <|
 mvK (gt q25) q5 <|
 retK) (fin) <|
 faK 0 (gt q3) q27 <|
 ld1K (gt q27) q28 <|
 faK 1 (gt q3) q29 <|
 ld1K (gt q29) q30 <|
 callK q125 [(gt q28), (gt q30)] q31 <|
 mvK (gt q31) q26 <|
 extK 0 (gt q26) q32 <|
 extK 1 (gt q26) q33 <|
 extK 2 (gt q26) q34 <|
 alK [.sn] 1 q8 <|
 stK 1 (gt q8) (gt q32) <|
 mvK (gt q33) q9 <|
 mvK (gt q34) q7 <|
 mvK (gt q7) q35 <|
 arK neqV (gt q35) (ct (.i .i64 0)) q36 <|
 condK (gt q36) (mvK (gt q7) q37 <|
 mvK (ct .pn) q4 <|
 mvK (gt q37) q5 <|
 retK) (fin) <|
 mvK (gt q0) q38 <|
 anyK ⟨(some q39), .al .mkm [], none, 0, false⟩ <|
 ldK 1 (gt q8) q40 <|
 rK (evBuild [.sn, .mn, .sn, .sn, (.i .i64 0), (.i .i64 0)] [(0, 1), (1, 1), (3, 1)]) [(gt q38), (gt q39), (gt q40)] q41 <|
 boxK (gt q41) q42 <|
 mvK (gt q42) q10 <|
 mvK (gt q0) q43 <|
 lensK (gt q43) q44 <|
 mvK (ct (.i .i64 0)) q45 <|
 blockK 0 (loopK (arK lssV (gt q45) (gt q44) q46 <|
 condK (gt q46) (fin) (exitK 0) <|
 blockK 1 (mvK (gt q45) q47 <|
 iaK 5 (gt q43) (gt q45) q48 <|
 ldK 5 (gt q48) q49 <|
 alK [(.s []), (.i .i64 0), .sn, .sn, .sn] 5 q12 <|
 mvK (gt q47) q11 <|
 stK 5 (gt q12) (gt q49) <|
 mvK (gt q10) q50 <|
 nilckK (gt q50) q51 <|
 faK 1 (gt q51) q52 <|
 ld1D 3 7 (gt q52) q53 <|
 faK 0 (gt q12) q54 <|
 ld1D 5 16 (gt q54) q55 <|
 mvK (gt q11) q56 <|
 efD 7 ⟨none, .ef (.upd false [2]) [.t q53, .t q55, .t q56], none, 127, false⟩ <|
 endD <|
 fin) <|
 arK addV (gt q45) (ct (.i .i64 1)) q57 <|
 mvK (gt q57) q45 <|
 fin) <|
 fin) <|
 mvK (gt q10) q58 <|
 mvK (gt q10) q59 <|
 mvK (gt q10) q60 <|
 nilckK (gt q60) q61 <|
 faK 1 (gt q61) q62 <|
 ld1K (gt q62) q63 <|
 hK (evLook false [2] (.i .i64 0) false) [(gt q63), (ct (.s [109, 97, 105, 110]))] q64 <|
 callK q126 [(gt q59), (gt q64), (ct (.i .i64 (-1))), (ct (.i .i64 (-1))), (ct (.i .i64 0))] q65 <|
 aK (alRows 1 1) [(gt q65)] q66 <|
 nilckK (gt q58) q67 <|
 faK 2 (gt q67) q68 <|
 stK 1 (gt q68) (gt q66) <|
 mvK (gt q10) q69 <|
 nilckK (gt q69) q70 <|
 faK 2 (gt q70) q71 <|
 ld1D 3 7 (gt q71) q72 <|
 iaK 1 (gt q72) (ct (.i .i64 0)) q73 <|
 ld1D 5 31 (gt q73) q74 <|
 nilckK (gt q74) q75 <|
 faK 0 (gt q75) q76 <|
 faK 4 (gt q76) q77 <|
 ld1D 9 511 (gt q77) q78 <|
 rK (evBuild [(.i .u8 0), (.i .i64 0)] [(0, 1)]) [(ct (.i .u8 3))] q79 <|
 aK (alRows 1 2) [(gt q79)] q80 <|
 mvK (gt q9) q81 <|
 efD 13 ⟨(some q82), .ef (.app 2 16) [.t q80, .t q81], none, 7168, false⟩ <|
 efD 14 ⟨(some q83), .ef (.copy 2) [.t q78, .t q82], none, 16383, false⟩ <|
 endD <|
 mvK (gt q10) q84 <|
 mvK (gt q10) q85 <|
 callK q74 [(gt q85)] q86 <|
 mvK (gt q84) q4 <|
 mvK (gt q86) q5 <|
 retK⟩
theorem ft71 : (compFn P9 Z9 71).map fastFn = some fn71 := by kernel_rfl
noncomputable def fn72 : FFn := ⟨[.t q2],
 mvK (ct .sn) q2 <|
 mvK (gt q0) q6 <|
 nilckK (gt q6) q7 <|
 faK 2 (gt q7) q8 <|
 ld1K (gt q8) q9 <|
 lensK (gt q9) q10 <|
 mvK (ct (.i .i64 0)) q11 <|
 blockK 0 (loopK (arK lssV (gt q11) (gt q10) q12 <|
 condK (gt q12) (fin) (exitK 0) <|
 blockK 1 (mvK (gt q11) q13 <|
 iaK 1 (gt q9) (gt q11) q14 <|
 ld1K (gt q14) q15 <|
 mvK (gt q13) q3 <|
 mvK (gt q15) q4 <|
 mvK (gt q4) q16 <|
 nilckK (gt q16) q17 <|
 faK 0 (gt q17) q18 <|
 faK 6 (gt q18) q19 <|
 ld1K (gt q19) q20 <|
 lensK (gt q20) q21 <|
 mvK (ct (.i .i64 0)) q22 <|
 blockK 2 (loopK (arK lssV (gt q22) (gt q21) q23 <|
 condK (gt q23) (fin) (exitK 2) <|
 blockK 3 (mvK (gt q22) q24 <|
 mvK (gt q24) q5 <|
 mvK (gt q0) q25 <|
 mvK (gt q4) q26 <|
 mvK (gt q5) q27 <|
 callK q127 [(gt q25), (gt q26), (gt q27)] q28 <|
 condK (gt q28) (mvK (gt q2) q29 <|
 mvK (gt q3) q30 <|
 mvK (gt q5) q31 <|
 rK (evBuild [(.i .i64 0), (.i .i64 0)] [(0, 1), (1, 1)]) [(gt q30), (gt q31)] q32 <|
 aK (alRows 1 2) [(gt q32)] q33 <|
 eK (efApp 2 16) [(gt q29), (gt q33)] q34 <|
 mvK (gt q34) q2 <|
 fin) (fin) <|
 fin) <|
 arK addV (gt q22) (ct (.i .i64 1)) q35 <|
 mvK (gt q35) q22 <|
 fin) <|
 fin) <|
 fin) <|
 arK addV (gt q11) (ct (.i .i64 1)) q36 <|
 mvK (gt q36) q11 <|
 fin) <|
 fin) <|
 mvK (gt q2) q37 <|
 mvK (gt q37) q2 <|
 retK⟩
theorem ft72 : (compFn P9 Z9 72).map fastFn = some fn72 := by kernel_rfl
noncomputable def fn73 : FFn := ⟨[.t q6],
 boxK (gt q1) q4 <|
 mvK (ct (.i .i64 0)) q6 <|
 mvK (gt q0) q13 <|
 nilckK (gt q13) q14 <|
 faK 5 (gt q14) q15 <|
 ld1K (gt q15) q16 <|
 arK eqlV (gt q16) (ct (.i .i64 6000)) q17 <|
 condK (gt q17) (mvK (ct (.i .i64 5)) q6 <|
 retK) (fin) <|
 mvK (gt q0) q18 <|
 nilckK (gt q18) q19 <|
 faK 5 (gt q19) q20 <|
 ld1K (gt q20) q21 <|
 arK addV (gt q21) (ct (.i .i64 1)) q22 <|
 nilckK (gt q18) q23 <|
 faK 5 (gt q23) q24 <|
 stK 1 (gt q24) (gt q22) <|
 mvK (gt q0) q25 <|
 nilckK (gt q25) q26 <|
 faK 2 (gt q26) q27 <|
 ld1D 3 7 (gt q27) q28 <|
 faK 0 (gt q4) q29 <|
 ld1D 5 16 (gt q29) q30 <|
 iaK 1 (gt q28) (gt q30) q31 <|
 ld1D 7 127 (gt q31) q32 <|
 mvK (gt q32) q7 <|
 endD <|
 mvK (gt q7) q33 <|
 nilckK (gt q33) q34 <|
 faK 0 (gt q34) q35 <|
 faK 6 (gt q35) q36 <|
 ld1D 4 15 (gt q36) q37 <|
 faK 1 (gt q4) q38 <|
 ld1D 6 32 (gt q38) q39 <|
 mvK (gt q2) q40 <|
 iaK 1 (gt q37) (gt q39) q41 <|
 efD 9 ⟨none, .ef (.st 1) [.t q41, .t q40], none, 511, false⟩ <|
 endD <|
 mvK (gt q0) q42 <|
 nilckK (gt q42) q43 <|
 faK 0 (gt q43) q44 <|
 ld1D 3 7 (gt q44) q45 <|
 mvK (gt q7) q46 <|
 nilckK (gt q46) q47 <|
 faK 0 (gt q47) q48 <|
 faK 0 (gt q48) q49 <|
 ld1D 8 240 (gt q49) q50 <|
 iaK 5 (gt q45) (gt q50) q51 <|
 faK 2 (gt q51) q52 <|
 ld1D 11 2047 (gt q52) q53 <|
 faK 1 (gt q4) q54 <|
 ld1D 13 4096 (gt q54) q55 <|
 iaK 4 (gt q53) (gt q55) q56 <|
 rdD 15 32767 (.ld 4) [(gt q56)] q57 <|
 alK [(.i .u8 0), (.s []), (.i .i64 0), .sn] 4 q8 <|
 efD 17 ⟨none, .ef (.st 4) [.t q8, .t q57], none, 131071, false⟩ <|
 endD <|
 mvK (gt q7) q58 <|
 faK 3 (gt q8) q59 <|
 ld1K (gt q59) q60 <|
 callK q118 [(gt q58), (gt q60)] q61 <|
 mvK (gt q61) q9 <|
 faK 0 (gt q8) q62 <|
 ld1K (gt q62) q63 <|
 blockK 0 (arK eqlV (gt q63) (ct (.i .u8 8)) q65 <|
 mvK (gt q65) q64 <|
 condK (gt q64) (fin) (arK eqlV (gt q63) (ct (.i .u8 9)) q66 <|
 mvK (gt q66) q64 <|
 fin) <|
 condK (gt q64) (mvK (gt q0) q67 <|
 rdD 1 0 (.ld 2) [(gt q4)] q68 <|
 rdD 2 0 (.ld 4) [(gt q8)] q69 <|
 mvK (gt q9) q70 <|
 iaK 2 (gt q70) (ct (.i .i64 0)) q71 <|
 rdD 5 24 (.ld 2) [(gt q71)] q72 <|
 efD 6 ⟨(some q73), .call (.c (.f q128 [])) [.t q67, .t q68, .t q69, .t q72], none, 63, false⟩ <|
 mvK (gt q73) q6 <|
 endD <|
 retK) (arK eqlV (gt q63) (ct (.i .u8 11)) q75 <|
 mvK (gt q75) q74 <|
 condK (gt q74) (mvK (gt q0) q77 <|
 mvK (gt q9) q78 <|
 iaK 2 (gt q78) (ct (.i .i64 0)) q79 <|
 rdD 3 6 (.ld 2) [(gt q79)] q80 <|
 mvK (gt q9) q81 <|
 iaK 2 (gt q81) (ct (.i .i64 1)) q82 <|
 rdD 6 48 (.ld 2) [(gt q82)] q83 <|
 mvK (gt q9) q84 <|
 iaK 2 (gt q84) (ct (.i .i64 2)) q85 <|
 rdD 9 384 (.ld 2) [(gt q85)] q86 <|
 rK (evBuild [(.i .u8 0), (.i .u8 0), (.i .i64 0), (.i .u8 0), (.i .i64 0), (.i .u8 0), (.i .i64 0), (.i .i64 0)] [(0, 1), (1, 2), (3, 2), (5, 2)]) [(ct (.i .u8 2)), (gt q80), (gt q83), (gt q86)] q87 <|
 efD 11 ⟨(some q88), .call (.c (.f q129 [])) [.t q77, .t q87], none, 2047, false⟩ <|
 mvK (gt q88) q76 <|
 extK 0 (gt q76) q89 <|
 extK 1 (gt q76) q90 <|
 mvK (gt q90) q6 <|
 endD <|
 mvK (gt q6) q91 <|
 mvK (gt q91) q6 <|
 retK) (arK eqlV (gt q63) (ct (.i .u8 5)) q93 <|
 mvK (gt q93) q92 <|
 condK (gt q92) (mvK (gt q9) q95 <|
 iaK 2 (gt q95) (ct (.i .i64 0)) q96 <|
 rdD 2 3 (.ld 2) [(gt q96)] q97 <|
 mvK (gt q9) q98 <|
 iaK 2 (gt q98) (ct (.i .i64 1)) q99 <|
 rdD 5 24 (.ld 2) [(gt q99)] q100 <|
 efD 6 ⟨(some q101), .call (.c (.f q130 [])) [.t q97, .t q100], none, 63, false⟩ <|
 mvK (gt q101) q94 <|
 extK 0 (gt q94) q102 <|
 extK 1 (gt q94) q103 <|
 alK [(.i .u8 0), (.i .i64 0)] 2 q11 <|
 mvK (gt q102) q10 <|
 efD 12 ⟨none, .ef (.st 2) [.t q11, .t q103], none, 4095, false⟩ <|
 endD <|
 mvK (gt q7) q104 <|
 nilckK (gt q104) q105 <|
 faK 0 (gt q105) q106 <|
 faK 5 (gt q106) q107 <|
 ld1D 4 15 (gt q107) q108 <|
 faK 1 (gt q4) q109 <|
 ld1D 6 32 (gt q109) q110 <|
 iaK 1 (gt q108) (gt q110) q111 <|
 ld1D 8 255 (gt q111) q112 <|
 mvK (gt q10) q113 <|
 rdD 10 0 (.ld 2) [(gt q11)] q114 <|
 iaK 2 (gt q112) (gt q113) q115 <|
 efD 12 ⟨none, .ef (.st 2) [.t q115, .t q114], none, 4095, false⟩ <|
 endD <|
 mvK (ct (.i .i64 0)) q6 <|
 retK) (fin) <|
 fin) <|
 fin) <|
 fin) <|
 mvK (gt q0) q117 <|
 ldK 2 (gt q4) q118 <|
 ldK 4 (gt q8) q119 <|
 mvK (gt q9) q120 <|
 callK q131 [(gt q117), (gt q118), (gt q119), (gt q120)] q121 <|
 mvK (gt q121) q116 <|
 extK 0 (gt q116) q122 <|
 extK 1 (gt q116) q123 <|
 alK [(.i .u8 0), (.i .i64 0)] 2 q12 <|
 stK 2 (gt q12) (gt q122) <|
 mvK (gt q123) q6 <|
 mvK (gt q6) q124 <|
 arK eqlV (gt q124) (ct (.i .i64 0)) q125 <|
 condK (gt q125) (mvK (gt q7) q126 <|
 nilckK (gt q126) q127 <|
 faK 0 (gt q127) q128 <|
 faK 5 (gt q128) q129 <|
 ld1D 4 15 (gt q129) q130 <|
 faK 1 (gt q4) q131 <|
 ld1D 6 32 (gt q131) q132 <|
 iaK 1 (gt q130) (gt q132) q133 <|
 ld1D 8 255 (gt q133) q134 <|
 rdD 9 0 (.ld 2) [(gt q12)] q135 <|
 iaK 2 (gt q134) (ct (.i .i64 0)) q136 <|
 efD 11 ⟨none, .ef (.st 2) [.t q136, .t q135], none, 2047, false⟩ <|
 endD <|
 fin) (fin) <|
 mvK (gt q6) q137 <|
 mvK (gt q137) q6 <|
 retK⟩
theorem ft73 : (compFn P9 Z9 73).map fastFn = some fn73 := by kernel_rfl
noncomputable def fn74 : FFn := ⟨[.t q2],
 mvK (ct (.i .i64 0)) q2 <|
 mvK (ct (.b true)) q3 <|
 blockK 0 (loopK (mvK (gt q3) q7 <|
 condK (gt q7) (fin) (exitK 0) <|
 blockK 1 (mvK (ct (.b false)) q3 <|
 mvK (ct (.i .i64 0)) q4 <|
 blockK 2 (loopK (mvK (gt q4) q8 <|
 mvK (gt q0) q9 <|
 nilckK (gt q9) q10 <|
 faK 2 (gt q10) q11 <|
 ld1K (gt q11) q12 <|
 lensK (gt q12) q13 <|
 arK lssV (gt q8) (gt q13) q14 <|
 condK (gt q14) (fin) (exitK 2) <|
 blockK 3 (mvK (gt q0) q18 <|
 mvK (gt q4) q19 <|
 callK q132 [(gt q18), (gt q19)] q20 <|
 mvK (gt q20) q17 <|
 extK 0 (gt q17) q21 <|
 extK 1 (gt q17) q22 <|
 mvK (gt q21) q5 <|
 mvK (gt q22) q6 <|
 mvK (gt q6) q23 <|
 arK neqV (gt q23) (ct (.i .i64 0)) q24 <|
 condK (gt q24) (mvK (gt q6) q25 <|
 mvK (gt q25) q2 <|
 retK) (fin) <|
 mvK (gt q3) q26 <|
 mvK (gt q26) q27 <|
 gK q27 false q28 (mvK (gt q5) q28) <|
 pickK (gt q27) (ct (.b true)) (gt q28) q29 <|
 mvK (gt q29) q3 <|
 fin) <|
 mvK (gt q4) q15 <|
 arK addV (gt q15) (ct (.i .i64 1)) q16 <|
 mvK (gt q16) q4 <|
 fin) <|
 fin) <|
 fin) <|
 fin) <|
 fin) <|
 mvK (gt q0) q30 <|
 callK q133 [(gt q30)] q31 <|
 mvK (gt q31) q2 <|
 retK⟩
theorem ft74 : (compFn P9 Z9 74).map fastFn = some fn74 := by kernel_rfl
noncomputable def fn80 : FFn := ⟨[.t q4],
 mvK (ct (.b false)) q4 <|
 mvK (gt q0) q6 <|
 lensK (gt q6) q7 <|
 mvK (gt q1) q8 <|
 lensK (gt q8) q9 <|
 arK neqV (gt q7) (gt q9) q10 <|
 condK (gt q10) (mvK (ct (.b false)) q4 <|
 retK) (fin) <|
 mvK (gt q0) q11 <|
 lensK (gt q11) q12 <|
 mvK (ct (.i .i64 0)) q13 <|
 blockK 0 (loopK (arK lssV (gt q13) (gt q12) q14 <|
 condK (gt q14) (fin) (exitK 0) <|
 blockK 1 (mvK (gt q13) q15 <|
 mvK (gt q15) q5 <|
 mvK (gt q0) q16 <|
 mvK (gt q5) q17 <|
 iaK 2 (gt q16) (gt q17) q18 <|
 rdD 3 7 (.ld 2) [(gt q18)] q19 <|
 mvK (gt q1) q20 <|
 mvK (gt q5) q21 <|
 iaK 2 (gt q20) (gt q21) q22 <|
 rdD 7 112 (.ld 2) [(gt q22)] q23 <|
 rK (evEqa true [0, 0]) [(gt q19), (gt q23)] q24 <|
 endD <|
 condK (gt q24) (mvK (ct (.b false)) q4 <|
 retK) (fin) <|
 fin) <|
 arK addV (gt q13) (ct (.i .i64 1)) q25 <|
 mvK (gt q25) q13 <|
 fin) <|
 fin) <|
 mvK (ct (.b true)) q4 <|
 retK⟩
theorem ft80 : (compFn P9 Z9 80).map fastFn = some fn80 := by kernel_rfl
noncomputable def fn81 : FFn := ⟨[.t q6],
 mvK (ct (.b false)) q6 <|
 mvK (gt q0) q10 <|
 lensK (gt q10) q11 <|
 mvK (gt q1) q12 <|
 lensK (gt q12) q13 <|
 arK neqV (gt q11) (gt q13) q14 <|
 condK (gt q14) (mvK (ct (.b false)) q6 <|
 retK) (fin) <|
 mvK (gt q0) q15 <|
 lensK (gt q15) q16 <|
 mvK (ct (.i .i64 0)) q17 <|
 blockK 0 (loopK (arK lssV (gt q17) (gt q16) q18 <|
 condK (gt q18) (fin) (exitK 0) <|
 blockK 1 (mvK (gt q17) q19 <|
 iaK 1 (gt q15) (gt q17) q20 <|
 ld1K (gt q20) q21 <|
 mvK (gt q19) q7 <|
 mvK (gt q21) q8 <|
 mvK (gt q1) q22 <|
 mvK (gt q7) q23 <|
 iaK 1 (gt q22) (gt q23) q24 <|
 ld1K (gt q24) q25 <|
 mvK (gt q25) q9 <|
 mvK (gt q2) q26 <|
 mvK (gt q8) q27 <|
 mvK (gt q9) q28 <|
 dynK (gt q26) [(gt q27), (gt q28)] q29 <|
 notK (gt q29) q30 <|
 condK (gt q30) (mvK (ct (.b false)) q6 <|
 retK) (fin) <|
 fin) <|
 arK addV (gt q17) (ct (.i .i64 1)) q31 <|
 mvK (gt q31) q17 <|
 fin) <|
 fin) <|
 mvK (ct (.b true)) q6 <|
 retK⟩
theorem ft81 : (compFn P9 Z9 81).map fastFn = some fn81 := by kernel_rfl
noncomputable def fn82 : FFn := ⟨[.t q6],
 mvK (ct (.b false)) q6 <|
 mvK (gt q0) q10 <|
 lensK (gt q10) q11 <|
 mvK (gt q1) q12 <|
 lensK (gt q12) q13 <|
 arK neqV (gt q11) (gt q13) q14 <|
 condK (gt q14) (mvK (ct (.b false)) q6 <|
 retK) (fin) <|
 mvK (gt q0) q15 <|
 lensK (gt q15) q16 <|
 mvK (ct (.i .i64 0)) q17 <|
 blockK 0 (loopK (arK lssV (gt q17) (gt q16) q18 <|
 condK (gt q18) (fin) (exitK 0) <|
 blockK 1 (mvK (gt q17) q19 <|
 iaK 2 (gt q15) (gt q17) q20 <|
 ldK 2 (gt q20) q21 <|
 alK [.sn, (.i .i64 0)] 2 q8 <|
 mvK (gt q19) q7 <|
 stK 2 (gt q8) (gt q21) <|
 mvK (gt q1) q22 <|
 mvK (gt q7) q23 <|
 iaK 2 (gt q22) (gt q23) q24 <|
 ldK 2 (gt q24) q25 <|
 alK [.sn, (.i .i64 0)] 2 q9 <|
 stK 2 (gt q9) (gt q25) <|
 mvK (gt q2) q26 <|
 ldK 2 (gt q8) q27 <|
 ldK 2 (gt q9) q28 <|
 dynK (gt q26) [(gt q27), (gt q28)] q29 <|
 notK (gt q29) q30 <|
 condK (gt q30) (mvK (ct (.b false)) q6 <|
 retK) (fin) <|
 fin) <|
 arK addV (gt q17) (ct (.i .i64 1)) q31 <|
 mvK (gt q31) q17 <|
 fin) <|
 fin) <|
 mvK (ct (.b true)) q6 <|
 retK⟩
theorem ft82 : (compFn P9 Z9 82).map fastFn = some fn82 := by kernel_rfl
noncomputable def fn83 : FFn := ⟨[.t q4],
 boxK (gt q0) q2 <|
 boxK (gt q1) q3 <|
 mvK (ct (.b false)) q4 <|
 ldK 2 (gt q2) q5 <|
 ldK 2 (gt q3) q6 <|
 callK q84 [(gt q5), (gt q6)] q7 <|
 arK eqlV (gt q7) (ct (.i .i64 0)) q8 <|
 mvK (gt q8) q4 <|
 retK⟩
theorem ft83 : (compFn P9 Z9 83).map fastFn = some fn83 := by kernel_rfl
noncomputable def fn84 : FFn := ⟨[.t q4],
 boxK (gt q0) q2 <|
 boxK (gt q1) q3 <|
 mvK (ct (.i .i64 0)) q4 <|
 faK 0 (gt q2) q5 <|
 ld1D 1 1 (gt q5) q6 <|
 faK 0 (gt q3) q7 <|
 ld1D 3 4 (gt q7) q8 <|
 efD 4 ⟨(some q9), .call (.c (.f q154 [])) [.t q6, .t q8, .c (.f q155 [])], none, 15, false⟩ <|
 faK 1 (gt q2) q10 <|
 ld1D 6 32 (gt q10) q11 <|
 faK 1 (gt q3) q12 <|
 ld1D 8 128 (gt q12) q13 <|
 efD 9 ⟨(some q14), .call (.c (.f q156 [])) [.t q11, .t q13], none, 511, false⟩ <|
 aK (alRows 2 1) [(gt q9), (gt q14)] q15 <|
 efD 11 ⟨(some q16), .call (.c (.f q153 [])) [.t q15], none, 2047, false⟩ <|
 mvK (gt q16) q4 <|
 endD <|
 retK⟩
theorem ft84 : (compFn P9 Z9 84).map fastFn = some fn84 := by kernel_rfl
noncomputable def fn88 : FFn := ⟨[.t q4],
 mvK (ct .sn) q4 <|
 mvK (gt q0) q6 <|
 nilckK (gt q6) q7 <|
 faK 2 (gt q7) q8 <|
 ld1K (gt q8) q9 <|
 mvK (gt q1) q10 <|
 iaK 1 (gt q9) (gt q10) q11 <|
 ld1K (gt q11) q12 <|
 mvK (gt q12) q5 <|
 blockK 0 (loopK (mvK (gt q5) q13 <|
 nilckK (gt q13) q14 <|
 faK 0 (gt q14) q15 <|
 faK 1 (gt q15) q16 <|
 ld1K (gt q16) q17 <|
 arK neqV (gt q17) (ct (.i .i64 (-1))) q18 <|
 condK (gt q18) (fin) (exitK 0) <|
 blockK 1 (mvK (gt q4) q30 <|
 mvK (gt q5) q31 <|
 nilckK (gt q31) q32 <|
 faK 0 (gt q32) q33 <|
 faK 2 (gt q33) q34 <|
 ld1D 5 30 (gt q34) q35 <|
 mvK (gt q5) q36 <|
 nilckK (gt q36) q37 <|
 faK 0 (gt q37) q38 <|
 faK 3 (gt q38) q39 <|
 ld1D 10 960 (gt q39) q40 <|
 rK (evBuild [(.i .i64 0), (.i .i64 0)] [(0, 1), (1, 1)]) [(gt q35), (gt q40)] q41 <|
 aK (alRows 1 2) [(gt q41)] q42 <|
 efD 13 ⟨(some q43), .ef (.app 2 16) [.t q30, .t q42], none, 8191, false⟩ <|
 mvK (gt q43) q4 <|
 endD <|
 fin) <|
 mvK (gt q0) q19 <|
 nilckK (gt q19) q20 <|
 faK 2 (gt q20) q21 <|
 ld1D 3 7 (gt q21) q22 <|
 mvK (gt q5) q23 <|
 nilckK (gt q23) q24 <|
 faK 0 (gt q24) q25 <|
 faK 1 (gt q25) q26 <|
 ld1D 8 240 (gt q26) q27 <|
 iaK 1 (gt q22) (gt q27) q28 <|
 ld1D 10 1023 (gt q28) q29 <|
 mvK (gt q29) q5 <|
 endD <|
 fin) <|
 fin) <|
 mvK (gt q4) q44 <|
 callK q157 [(gt q44)] q45 <|
 mvK (gt q4) q46 <|
 mvK (gt q46) q4 <|
 retK⟩
theorem ft88 : (compFn P9 Z9 88).map fastFn = some fn88 := by kernel_rfl
noncomputable def fn91 : FFn := ⟨[.cell q4 2, .t q5],
 boxK (gt q0) q2 <|
 alK [.sn, .sn] 2 q4 <|
 mvK (ct (.i .i64 0)) q5 <|
 ldK 1 (gt q2) q9 <|
 callK q158 [(gt q9)] q10 <|
 mvK (gt q10) q8 <|
 extK 0 (gt q8) q11 <|
 extK 1 (gt q8) q12 <|
 alK [.pn] 1 q6 <|
 stK 1 (gt q6) (gt q11) <|
 mvK (gt q12) q7 <|
 blockK 0 (mvK (gt q7) q14 <|
 arK neqV (gt q14) (ct (.i .i64 0)) q15 <|
 mvK (gt q15) q13 <|
 condK (gt q13) (rK (evBuild [.sn, .sn] []) [] q16 <|
 mvK (gt q7) q17 <|
 stK 2 (gt q4) (gt q16) <|
 mvK (gt q17) q5 <|
 retK) (mvK (gt q1) q19 <|
 lensK (gt q19) q20 <|
 arK gtrV (gt q20) (ct (.i .i64 100)) q21 <|
 mvK (gt q21) q18 <|
 condK (gt q18) (fin) (mvK (gt q1) q22 <|
 anyK ⟨(some q23), .rd (.mkf q160) [.t q6], none, 0, false⟩ <|
 callK q159 [(gt q22), (gt q23)] q24 <|
 mvK (gt q24) q18 <|
 fin) <|
 condK (gt q18) (rK (evBuild [.sn, .sn] []) [] q25 <|
 stK 2 (gt q4) (gt q25) <|
 mvK (ct (.i .i64 2)) q5 <|
 retK) (fin) <|
 fin) <|
 fin) <|
 ld1K (gt q6) q26 <|
 mvK (gt q1) q27 <|
 callK q162 [(gt q26), (gt q27)] q28 <|
 stK 2 (gt q4) (gt q28) <|
 mvK (ct (.i .i64 0)) q5 <|
 retK⟩
theorem ft91 : (compFn P9 Z9 91).map fastFn = some fn91 := by kernel_rfl
noncomputable def fn92 : FFn := ⟨[.cell q4 2],
 boxK (gt q1) q3 <|
 alK [(.i .u8 0), (.i .i64 0)] 2 q4 <|
 faK 0 (gt q3) q5 <|
 ld1K (gt q5) q6 <|
 arK lssV (gt q6) (ct (.i .i64 0)) q7 <|
 condK (gt q7) (mvK (gt q0) q8 <|
 nilckK (gt q8) q9 <|
 faK 0 (gt q9) q10 <|
 faK 4 (gt q10) q11 <|
 ld1D 4 15 (gt q11) q12 <|
 faK 1 (gt q3) q13 <|
 ld1D 6 32 (gt q13) q14 <|
 iaK 2 (gt q12) (gt q14) q15 <|
 rdD 8 255 (.ld 2) [(gt q15)] q16 <|
 efD 9 ⟨none, .ef (.st 2) [.t q4, .t q16], none, 511, false⟩ <|
 endD <|
 retK) (fin) <|
 mvK (gt q0) q17 <|
 nilckK (gt q17) q18 <|
 faK 0 (gt q18) q19 <|
 faK 5 (gt q19) q20 <|
 ld1D 4 15 (gt q20) q21 <|
 faK 0 (gt q3) q22 <|
 ld1D 6 32 (gt q22) q23 <|
 iaK 1 (gt q21) (gt q23) q24 <|
 ld1D 8 255 (gt q24) q25 <|
 faK 1 (gt q3) q26 <|
 ld1D 10 512 (gt q26) q27 <|
 iaK 2 (gt q25) (gt q27) q28 <|
 rdD 12 4095 (.ld 2) [(gt q28)] q29 <|
 efD 13 ⟨none, .ef (.st 2) [.t q4, .t q29], none, 8191, false⟩ <|
 endD <|
 retK⟩
theorem ft92 : (compFn P9 Z9 92).map fastFn = some fn92 := by kernel_rfl
noncomputable def fn96 : FFn := ⟨[.t q4],
 mvK (ct (.b false)) q4 <|
 mvK (gt q0) q6 <|
 lensK (gt q6) q7 <|
 mvK (gt q1) q8 <|
 lensK (gt q8) q9 <|
 arK neqV (gt q7) (gt q9) q10 <|
 condK (gt q10) (mvK (ct (.b false)) q4 <|
 retK) (fin) <|
 mvK (ct (.i .i64 0)) q5 <|
 blockK 0 (loopK (mvK (gt q5) q11 <|
 mvK (gt q0) q12 <|
 lensK (gt q12) q13 <|
 arK lssV (gt q11) (gt q13) q14 <|
 condK (gt q14) (fin) (exitK 0) <|
 blockK 1 (mvK (gt q0) q17 <|
 mvK (gt q5) q18 <|
 iaK 2 (gt q17) (gt q18) q19 <|
 rdD 3 7 (.ld 2) [(gt q19)] q20 <|
 mvK (gt q1) q21 <|
 mvK (gt q5) q22 <|
 iaK 2 (gt q21) (gt q22) q23 <|
 rdD 7 112 (.ld 2) [(gt q23)] q24 <|
 rK (evEqa true [0, 0]) [(gt q20), (gt q24)] q25 <|
 endD <|
 condK (gt q25) (mvK (ct (.b false)) q4 <|
 retK) (fin) <|
 fin) <|
 mvK (gt q5) q15 <|
 arK addV (gt q15) (ct (.i .i64 1)) q16 <|
 mvK (gt q16) q5 <|
 fin) <|
 fin) <|
 mvK (ct (.b true)) q4 <|
 retK⟩
theorem ft96 : (compFn P9 Z9 96).map fastFn = some fn96 := by kernel_rfl
noncomputable def fn97 : FFn := ⟨[.t q4],
 mvK (ct (.i .i64 0)) q4 <|
 mvK (gt q0) q10 <|
 callK q72 [(gt q10)] q11 <|
 mvK (gt q11) q5 <|
 blockK 0 (loopK (mvK (gt q5) q12 <|
 lensK (gt q12) q13 <|
 arK gtrV (gt q13) (ct (.i .i64 0)) q14 <|
 mvK (gt q14) q15 <|
 gK q15 true q16 (mvK (gt q0) q16) <|
 gK q15 true q17 (nilckK (gt q16) q17) <|
 gK q15 true q18 (faK 4 (gt q17) q18) <|
 gK q15 true q19 (ld1K (gt q18) q19) <|
 gK q15 true q20 (mvK (gt q1) q20) <|
 gK q15 true q21 (arK lssV (gt q19) (gt q20) q21) <|
 pickK (gt q15) (gt q21) (ct (.b false)) q22 <|
 condK (gt q22) (fin) (exitK 0) <|
 blockK 1 (mvK (gt q0) q25 <|
 nilckK (gt q25) q26 <|
 faK 4 (gt q26) q27 <|
 ld1K (gt q27) q28 <|
 arK addV (gt q28) (ct (.i .i64 1)) q29 <|
 nilckK (gt q25) q30 <|
 faK 4 (gt q30) q31 <|
 stK 1 (gt q31) (gt q29) <|
 mvK (gt q5) q32 <|
 lensK (gt q32) q33 <|
 mvK (ct (.i .i64 0)) q34 <|
 blockK 2 (loopK (arK lssV (gt q34) (gt q33) q35 <|
 condK (gt q35) (fin) (exitK 2) <|
 blockK 3 (iaK 2 (gt q32) (gt q34) q36 <|
 ldK 2 (gt q36) q37 <|
 alK [(.i .i64 0), (.i .i64 0)] 2 q7 <|
 stK 2 (gt q7) (gt q37) <|
 mvK (gt q0) q38 <|
 rdD 1 0 (.ld 2) [(gt q7)] q39 <|
 mvK (gt q0) q40 <|
 nilckK (gt q40) q41 <|
 faK 4 (gt q41) q42 <|
 ld1D 5 28 (gt q42) q43 <|
 efD 6 ⟨(some q44), .call (.c (.f q73 [])) [.t q38, .t q39, .t q43], none, 63, false⟩ <|
 mvK (gt q44) q8 <|
 endD <|
 mvK (gt q8) q45 <|
 arK neqV (gt q45) (ct (.i .i64 0)) q46 <|
 condK (gt q46) (mvK (gt q8) q47 <|
 mvK (gt q47) q4 <|
 retK) (fin) <|
 fin) <|
 arK addV (gt q34) (ct (.i .i64 1)) q48 <|
 mvK (gt q48) q34 <|
 fin) <|
 fin) <|
 mvK (gt q0) q49 <|
 callK q74 [(gt q49)] q50 <|
 mvK (gt q50) q9 <|
 mvK (gt q9) q51 <|
 arK neqV (gt q51) (ct (.i .i64 0)) q52 <|
 condK (gt q52) (mvK (gt q9) q53 <|
 mvK (gt q53) q4 <|
 retK) (fin) <|
 fin) <|
 mvK (gt q0) q23 <|
 callK q72 [(gt q23)] q24 <|
 mvK (gt q24) q5 <|
 fin) <|
 fin) <|
 mvK (ct (.i .i64 0)) q4 <|
 retK⟩
theorem ft97 : (compFn P9 Z9 97).map fastFn = some fn97 := by kernel_rfl
noncomputable def fn102 : FFn := ⟨[.cell q2 2],
 alK [(.i .i64 0), (.i .i64 0)] 2 q2 <|
 mvK (gt q0) q3 <|
 rK (evBuild [(.i .i64 0), (.i .i64 0)] [(0, 1), (1, 1)]) [(ct (.i .i64 (-1))), (gt q3)] q4 <|
 stK 2 (gt q2) (gt q4) <|
 retK⟩
theorem ft102 : (compFn P9 Z9 102).map fastFn = some fn102 := by kernel_rfl
noncomputable def fn103 : FFn := ⟨[.cell q2 2],
 alK [(.i .i64 0), (.i .i64 0)] 2 q2 <|
 mvK (gt q0) q3 <|
 rK (evBuild [(.i .i64 0), (.i .i64 0)] [(0, 1)]) [(gt q3)] q4 <|
 stK 2 (gt q2) (gt q4) <|
 retK⟩
theorem ft103 : (compFn P9 Z9 103).map fastFn = some fn103 := by kernel_rfl
noncomputable def fn104 : FFn := ⟨[.cell q8 4],
 alK [(.i .u8 0), (.s []), (.i .i64 0), .sn] 4 q8 <|
 mvK (gt q0) q9 <|
 mvK (gt q1) q10 <|
 mvK (gt q2) q11 <|
 mvK (gt q3) q12 <|
 rK (evBuild [(.i .u8 0), (.s []), (.i .i64 0), .sn] [(0, 1), (1, 1), (2, 1), (3, 1)]) [(gt q9), (gt q10), (gt q11), (gt q12)] q13 <|
 stK 4 (gt q8) (gt q13) <|
 retK⟩
theorem ft104 : (compFn P9 Z9 104).map fastFn = some fn104 := by kernel_rfl
noncomputable def fn108 : FFn := ⟨[.t q2, .t q3],
 mvK (ct .pn) q2 <|
 mvK (ct (.i .i64 0)) q3 <|
 mvK (gt q0) q6 <|
 callK q167 [(gt q6)] q7 <|
 mvK (gt q7) q4 <|
 mvK (gt q4) q8 <|
 callK q168 [(gt q8)] q9 <|
 mvK (gt q9) q5 <|
 mvK (gt q5) q10 <|
 arK neqV (gt q10) (ct (.i .i64 0)) q11 <|
 condK (gt q11) (mvK (gt q5) q12 <|
 mvK (ct .pn) q2 <|
 mvK (gt q12) q3 <|
 retK) (fin) <|
 mvK (gt q4) q13 <|
 mvK (gt q13) q2 <|
 mvK (ct (.i .i64 0)) q3 <|
 retK⟩
theorem ft108 : (compFn P9 Z9 108).map fastFn = some fn108 := by kernel_rfl
noncomputable def fn118 : FFn := ⟨[.t q4],
 mvK (ct .sn) q4 <|
 mvK (gt q1) q7 <|
 lensK (gt q7) q8 <|
 mvK (ct (.i .i64 0)) q9 <|
 blockK 0 (loopK (arK lssV (gt q9) (gt q8) q10 <|
 condK (gt q10) (fin) (exitK 0) <|
 blockK 1 (iaK 2 (gt q7) (gt q9) q11 <|
 ldK 2 (gt q11) q12 <|
 alK [(.i .i64 0), (.i .i64 0)] 2 q6 <|
 stK 2 (gt q6) (gt q12) <|
 mvK (gt q4) q13 <|
 mvK (gt q0) q14 <|
 ldK 2 (gt q6) q15 <|
 callK q92 [(gt q14), (gt q15)] q16 <|
 aK (alRows 1 2) [(gt q16)] q17 <|
 eK (efApp 2 16) [(gt q13), (gt q17)] q18 <|
 mvK (gt q18) q4 <|
 fin) <|
 arK addV (gt q9) (ct (.i .i64 1)) q19 <|
 mvK (gt q19) q9 <|
 fin) <|
 fin) <|
 mvK (gt q4) q20 <|
 mvK (gt q20) q4 <|
 retK⟩
theorem ft118 : (compFn P9 Z9 118).map fastFn = some fn118 := by kernel_rfl
noncomputable def fn119 : FFn := ⟨[.t q2],
 mvK (ct .sn) q2 <|
 mvK (gt q0) q7 <|
 nilckK (gt q7) q8 <|
 faK 2 (gt q8) q9 <|
 ld1K (gt q9) q10 <|
 lensK (gt q10) q11 <|
 mvK (ct (.i .i64 0)) q12 <|
 blockK 0 (loopK (arK lssV (gt q12) (gt q11) q13 <|
 condK (gt q13) (fin) (exitK 0) <|
 blockK 1 (mvK (gt q12) q14 <|
 iaK 1 (gt q10) (gt q12) q15 <|
 ld1K (gt q15) q16 <|
 mvK (gt q14) q3 <|
 mvK (gt q16) q4 <|
 mvK (gt q0) q17 <|
 nilckK (gt q17) q18 <|
 faK 0 (gt q18) q19 <|
 ld1D 3 7 (gt q19) q20 <|
 mvK (gt q4) q21 <|
 nilckK (gt q21) q22 <|
 faK 0 (gt q22) q23 <|
 faK 0 (gt q23) q24 <|
 ld1D 8 240 (gt q24) q25 <|
 iaK 5 (gt q20) (gt q25) q26 <|
 faK 2 (gt q26) q27 <|
 ld1D 11 2047 (gt q27) q28 <|
 lensK (gt q28) q29 <|
 mvK (ct (.i .i64 0)) q30 <|
 endD <|
 blockK 2 (loopK (arK lssV (gt q30) (gt q29) q31 <|
 condK (gt q31) (fin) (exitK 2) <|
 blockK 3 (mvK (gt q30) q32 <|
 iaK 4 (gt q28) (gt q30) q33 <|
 ldK 4 (gt q33) q34 <|
 alK [(.i .u8 0), (.s []), (.i .i64 0), .sn] 4 q6 <|
 mvK (gt q32) q5 <|
 stK 4 (gt q6) (gt q34) <|
 faK 0 (gt q6) q35 <|
 ld1K (gt q35) q36 <|
 arK eqlV (gt q36) (ct (.i .u8 12)) q37 <|
 mvK (gt q37) q38 <|
 gK q38 true q39 (mvK (gt q4) q39) <|
 gK q38 true q40 (nilckK (gt q39) q40) <|
 gK q38 true q41 (faK 0 (gt q40) q41) <|
 gK q38 true q42 (faK 6 (gt q41) q42) <|
 gK q38 true q43 (ld1K (gt q42) q43) <|
 gK q38 true q44 (mvK (gt q5) q44) <|
 gK q38 true q45 (iaK 1 (gt q43) (gt q44) q45) <|
 gK q38 true q46 (ld1K (gt q45) q46) <|
 gK q38 true q47 (arK gtrV (gt q46) (ct (.i .i64 0)) q47) <|
 pickK (gt q38) (gt q47) (ct (.b false)) q48 <|
 mvK (gt q48) q49 <|
 gK q49 true q50 (mvK (gt q4) q50) <|
 gK q49 true q51 (nilckK (gt q50) q51) <|
 gK q49 true q52 (faK 0 (gt q51) q52) <|
 gK q49 true q53 (faK 5 (gt q52) q53) <|
 gK q49 true q54 (ld1K (gt q53) q54) <|
 gK q49 true q55 (mvK (gt q5) q55) <|
 gK q49 true q56 (iaK 1 (gt q54) (gt q55) q56) <|
 gK q49 true q57 (ld1K (gt q56) q57) <|
 gK q49 true q58 (iaK 2 (gt q57) (ct (.i .i64 0)) q58) <|
 gK q49 true q59 (ldK 2 (gt q58) q59) <|
 gK q49 true q60 (callK q174 [(gt q59)] q60) <|
 gK q49 true q61 (notK (gt q60) q61) <|
 pickK (gt q49) (gt q61) (ct (.b false)) q62 <|
 condK (gt q62) (mvK (gt q2) q63 <|
 mvK (gt q0) q64 <|
 mvK (gt q3) q65 <|
 callK q88 [(gt q64), (gt q65)] q66 <|
 mvK (gt q5) q67 <|
 rK (evBuild [.sn, (.i .i64 0)] [(0, 1), (1, 1)]) [(gt q66), (gt q67)] q68 <|
 aK (alRows 1 2) [(gt q68)] q69 <|
 eK (efApp 2 32) [(gt q63), (gt q69)] q70 <|
 mvK (gt q70) q2 <|
 fin) (fin) <|
 fin) <|
 arK addV (gt q30) (ct (.i .i64 1)) q71 <|
 mvK (gt q71) q30 <|
 fin) <|
 fin) <|
 fin) <|
 arK addV (gt q12) (ct (.i .i64 1)) q72 <|
 mvK (gt q72) q12 <|
 fin) <|
 fin) <|
 mvK (gt q2) q73 <|
 callK q175 [(gt q73), (ct (.f q84 []))] q74 <|
 mvK (gt q2) q75 <|
 mvK (gt q75) q2 <|
 retK⟩
theorem ft119 : (compFn P9 Z9 119).map fastFn = some fn119 := by kernel_rfl
end Go.Proofs.YtkfdbldnghcngaaGreat.Fast
