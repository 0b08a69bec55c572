/- The seat's functions as closures. -/
import Derived.Test.YtkfdbldnghcngaaGreatTq
namespace Go.Proofs.YtkfdbldnghcngaaGreat.Fast
open Go.Fg
noncomputable def fn266 : FFn := ⟨[],
 mvK (gt q1) q10 <|
 mvK (gt q10) q8 <|
 mvK (gt q2) q11 <|
 arK subV (gt q11) (ct (.i .i64 1)) q12 <|
 mvK (gt q12) q9 <|
 blockK 0 (loopK (mvK (gt q8) q13 <|
 mvK (gt q9) q14 <|
 arK lssV (gt q13) (gt q14) q15 <|
 condK (gt q15) (fin) (exitK 0) <|
 blockK 1 (mvK (gt q0) q16 <|
 mvK (gt q8) q17 <|
 mvK (gt q0) q18 <|
 mvK (gt q9) q19 <|
 mvK (gt q0) q20 <|
 mvK (gt q9) q21 <|
 iaK 2 (gt q20) (gt q21) q22 <|
 rdD 7 112 (.ld 2) [(gt q22)] q23 <|
 mvK (gt q0) q24 <|
 mvK (gt q8) q25 <|
 iaK 2 (gt q24) (gt q25) q26 <|
 rdD 11 1792 (.ld 2) [(gt q26)] q27 <|
 iaK 2 (gt q16) (gt q17) q28 <|
 efD 13 ⟨none, .ef (.st 2) [.t q28, .t q23], none, 8179, false⟩ <|
 iaK 2 (gt q18) (gt q19) q29 <|
 efD 15 ⟨none, .ef (.st 2) [.t q29, .t q27], none, 32767, false⟩ <|
 endD <|
 mvK (gt q8) q30 <|
 arK addV (gt q30) (ct (.i .i64 1)) q31 <|
 mvK (gt q31) q8 <|
 mvK (gt q9) q32 <|
 arK subV (gt q32) (ct (.i .i64 1)) q33 <|
 mvK (gt q33) q9 <|
 fin) <|
 fin) <|
 fin) <|
 fin⟩
theorem ft266 : (compFn P9 Z9 266).map fastFn = some fn266 := by kernel_rfl
noncomputable def fn267 : FFn := ⟨[.t q8],
 mvK (ct (.b false)) q8 <|
 mvK (gt q1) q13 <|
 arK addV (gt q13) (ct (.i .i64 1)) q14 <|
 mvK (gt q14) q9 <|
 mvK (ct (.i .i64 0)) q10 <|
 blockK 0 (loopK (mvK (gt q10) q15 <|
 arK lssV (gt q15) (ct (.i .i64 5)) q16 <|
 condK (gt q16) (fin) (exitK 0) <|
 blockK 1 (blockK 2 (loopK (mvK (gt q9) q19 <|
 mvK (gt q2) q20 <|
 arK lssV (gt q19) (gt q20) q21 <|
 mvK (gt q21) q22 <|
 gK q22 true q23 (mvK (gt q3) q23) <|
 gK q22 true q24 (mvK (gt q0) q24) <|
 gK q22 true q25 (mvK (gt q9) q25) <|
 gK q22 true q26 (iaK 2 (gt q24) (gt q25) q26) <|
 gK q22 true q27 (rdD 8 239 (.ld 2) [(gt q26)] q27) <|
 gK q22 true q28 (mvK (gt q0) q28) <|
 gK q22 true q29 (mvK (gt q9) q29) <|
 gK q22 true q30 (arK subV (gt q29) (ct (.i .i64 1)) q30) <|
 gK q22 true q31 (iaK 2 (gt q28) (gt q30) q31) <|
 gK q22 true q32 (rdD 13 7695 (.ld 2) [(gt q31)] q32) <|
 gK q22 true q33 (efD 14 ⟨(some q33), .call (.t q23) [.t q27, .t q32], (some (q22, true)), 16383, false⟩) <|
 gK q22 true q34 (arK lssV (gt q33) (ct (.i .i64 0)) q34) <|
 gK q22 true q35 (notK (gt q34) q35) <|
 pickK (gt q22) (gt q35) (ct (.b false)) q36 <|
 endD <|
 condK (gt q36) (fin) (exitK 2) <|
 blockK 3 (mvK (gt q9) q37 <|
 arK addV (gt q37) (ct (.i .i64 1)) q38 <|
 mvK (gt q38) q9 <|
 fin) <|
 fin) <|
 fin) <|
 mvK (gt q9) q39 <|
 mvK (gt q2) q40 <|
 arK eqlV (gt q39) (gt q40) q41 <|
 condK (gt q41) (mvK (ct (.b true)) q8 <|
 retK) (fin) <|
 mvK (gt q2) q42 <|
 mvK (gt q1) q43 <|
 arK subV (gt q42) (gt q43) q44 <|
 arK lssV (gt q44) (ct (.i .i64 50)) q45 <|
 condK (gt q45) (mvK (ct (.b false)) q8 <|
 retK) (fin) <|
 mvK (gt q0) q46 <|
 mvK (gt q9) q47 <|
 mvK (gt q0) q48 <|
 mvK (gt q9) q49 <|
 arK subV (gt q49) (ct (.i .i64 1)) q50 <|
 mvK (gt q0) q51 <|
 mvK (gt q9) q52 <|
 arK subV (gt q52) (ct (.i .i64 1)) q53 <|
 iaK 2 (gt q51) (gt q53) q54 <|
 rdD 9 480 (.ld 2) [(gt q54)] q55 <|
 mvK (gt q0) q56 <|
 mvK (gt q9) q57 <|
 iaK 2 (gt q56) (gt q57) q58 <|
 rdD 13 7168 (.ld 2) [(gt q58)] q59 <|
 iaK 2 (gt q46) (gt q47) q60 <|
 efD 15 ⟨none, .ef (.st 2) [.t q60, .t q55], none, 32739, false⟩ <|
 iaK 2 (gt q48) (gt q50) q61 <|
 efD 17 ⟨none, .ef (.st 2) [.t q61, .t q59], none, 131071, false⟩ <|
 endD <|
 mvK (gt q9) q62 <|
 mvK (gt q1) q63 <|
 arK subV (gt q62) (gt q63) q64 <|
 arK geqV (gt q64) (ct (.i .i64 2)) q65 <|
 condK (gt q65) (mvK (gt q9) q66 <|
 arK subV (gt q66) (ct (.i .i64 1)) q67 <|
 mvK (gt q67) q11 <|
 blockK 4 (loopK (mvK (gt q11) q68 <|
 arK geqV (gt q68) (ct (.i .i64 1)) q69 <|
 condK (gt q69) (fin) (exitK 4) <|
 blockK 5 (mvK (gt q3) q72 <|
 mvK (gt q0) q73 <|
 mvK (gt q11) q74 <|
 iaK 2 (gt q73) (gt q74) q75 <|
 rdD 4 14 (.ld 2) [(gt q75)] q76 <|
 mvK (gt q0) q77 <|
 mvK (gt q11) q78 <|
 arK subV (gt q78) (ct (.i .i64 1)) q79 <|
 iaK 2 (gt q77) (gt q79) q80 <|
 rdD 9 480 (.ld 2) [(gt q80)] q81 <|
 efD 10 ⟨(some q82), .call (.t q72) [.t q76, .t q81], none, 1023, false⟩ <|
 arK lssV (gt q82) (ct (.i .i64 0)) q83 <|
 notK (gt q83) q84 <|
 endD <|
 condK (gt q84) (exitK 4) (fin) <|
 mvK (gt q0) q85 <|
 mvK (gt q11) q86 <|
 mvK (gt q0) q87 <|
 mvK (gt q11) q88 <|
 arK subV (gt q88) (ct (.i .i64 1)) q89 <|
 mvK (gt q0) q90 <|
 mvK (gt q11) q91 <|
 arK subV (gt q91) (ct (.i .i64 1)) q92 <|
 iaK 2 (gt q90) (gt q92) q93 <|
 rdD 9 480 (.ld 2) [(gt q93)] q94 <|
 mvK (gt q0) q95 <|
 mvK (gt q11) q96 <|
 iaK 2 (gt q95) (gt q96) q97 <|
 rdD 13 7168 (.ld 2) [(gt q97)] q98 <|
 iaK 2 (gt q85) (gt q86) q99 <|
 efD 15 ⟨none, .ef (.st 2) [.t q99, .t q94], none, 32739, false⟩ <|
 iaK 2 (gt q87) (gt q89) q100 <|
 efD 17 ⟨none, .ef (.st 2) [.t q100, .t q98], none, 131071, false⟩ <|
 endD <|
 fin) <|
 mvK (gt q11) q70 <|
 arK subV (gt q70) (ct (.i .i64 1)) q71 <|
 mvK (gt q71) q11 <|
 fin) <|
 fin) <|
 fin) (fin) <|
 mvK (gt q2) q101 <|
 mvK (gt q9) q102 <|
 arK subV (gt q101) (gt q102) q103 <|
 arK geqV (gt q103) (ct (.i .i64 2)) q104 <|
 condK (gt q104) (mvK (gt q9) q105 <|
 arK addV (gt q105) (ct (.i .i64 1)) q106 <|
 mvK (gt q106) q12 <|
 blockK 6 (loopK (mvK (gt q12) q107 <|
 mvK (gt q2) q108 <|
 arK lssV (gt q107) (gt q108) q109 <|
 condK (gt q109) (fin) (exitK 6) <|
 blockK 7 (mvK (gt q3) q112 <|
 mvK (gt q0) q113 <|
 mvK (gt q12) q114 <|
 iaK 2 (gt q113) (gt q114) q115 <|
 rdD 4 14 (.ld 2) [(gt q115)] q116 <|
 mvK (gt q0) q117 <|
 mvK (gt q12) q118 <|
 arK subV (gt q118) (ct (.i .i64 1)) q119 <|
 iaK 2 (gt q117) (gt q119) q120 <|
 rdD 9 480 (.ld 2) [(gt q120)] q121 <|
 efD 10 ⟨(some q122), .call (.t q112) [.t q116, .t q121], none, 1023, false⟩ <|
 arK lssV (gt q122) (ct (.i .i64 0)) q123 <|
 notK (gt q123) q124 <|
 endD <|
 condK (gt q124) (exitK 6) (fin) <|
 mvK (gt q0) q125 <|
 mvK (gt q12) q126 <|
 mvK (gt q0) q127 <|
 mvK (gt q12) q128 <|
 arK subV (gt q128) (ct (.i .i64 1)) q129 <|
 mvK (gt q0) q130 <|
 mvK (gt q12) q131 <|
 arK subV (gt q131) (ct (.i .i64 1)) q132 <|
 iaK 2 (gt q130) (gt q132) q133 <|
 rdD 9 480 (.ld 2) [(gt q133)] q134 <|
 mvK (gt q0) q135 <|
 mvK (gt q12) q136 <|
 iaK 2 (gt q135) (gt q136) q137 <|
 rdD 13 7168 (.ld 2) [(gt q137)] q138 <|
 iaK 2 (gt q125) (gt q126) q139 <|
 efD 15 ⟨none, .ef (.st 2) [.t q139, .t q134], none, 32739, false⟩ <|
 iaK 2 (gt q127) (gt q129) q140 <|
 efD 17 ⟨none, .ef (.st 2) [.t q140, .t q138], none, 131071, false⟩ <|
 endD <|
 fin) <|
 mvK (gt q12) q110 <|
 arK addV (gt q110) (ct (.i .i64 1)) q111 <|
 mvK (gt q111) q12 <|
 fin) <|
 fin) <|
 fin) (fin) <|
 fin) <|
 mvK (gt q10) q17 <|
 arK addV (gt q17) (ct (.i .i64 1)) q18 <|
 mvK (gt q18) q10 <|
 fin) <|
 fin) <|
 mvK (ct (.b false)) q8 <|
 retK⟩
theorem ft267 : (compFn P9 Z9 267).map fastFn = some fn267 := by kernel_rfl
noncomputable def fn268 : FFn := ⟨[.t q10],
 mvK (ct (.i .i64 0)) q10 <|
 mvK (gt q0) q13 <|
 mvK (gt q1) q14 <|
 mvK (gt q0) q15 <|
 mvK (gt q3) q16 <|
 mvK (gt q0) q17 <|
 mvK (gt q3) q18 <|
 iaK 2 (gt q17) (gt q18) q19 <|
 rdD 7 112 (.ld 2) [(gt q19)] q20 <|
 mvK (gt q0) q21 <|
 mvK (gt q1) q22 <|
 iaK 2 (gt q21) (gt q22) q23 <|
 rdD 11 1792 (.ld 2) [(gt q23)] q24 <|
 iaK 2 (gt q13) (gt q14) q25 <|
 efD 13 ⟨none, .ef (.st 2) [.t q25, .t q20], none, 8179, false⟩ <|
 iaK 2 (gt q15) (gt q16) q26 <|
 efD 15 ⟨none, .ef (.st 2) [.t q26, .t q24], none, 32767, false⟩ <|
 endD <|
 mvK (gt q1) q27 <|
 arK addV (gt q27) (ct (.i .i64 1)) q28 <|
 mvK (gt q2) q29 <|
 arK subV (gt q29) (ct (.i .i64 1)) q30 <|
 mvK (gt q28) q11 <|
 mvK (gt q30) q12 <|
 blockK 0 (loopK (blockK 1 (blockK 2 (loopK (mvK (gt q11) q31 <|
 mvK (gt q12) q32 <|
 arK leqV (gt q31) (gt q32) q33 <|
 mvK (gt q33) q34 <|
 gK q34 true q35 (mvK (gt q4) q35) <|
 gK q34 true q36 (mvK (gt q0) q36) <|
 gK q34 true q37 (mvK (gt q1) q37) <|
 gK q34 true q38 (iaK 2 (gt q36) (gt q37) q38) <|
 gK q34 true q39 (rdD 8 239 (.ld 2) [(gt q38)] q39) <|
 gK q34 true q40 (mvK (gt q0) q40) <|
 gK q34 true q41 (mvK (gt q11) q41) <|
 gK q34 true q42 (iaK 2 (gt q40) (gt q41) q42) <|
 gK q34 true q43 (rdD 12 3599 (.ld 2) [(gt q42)] q43) <|
 gK q34 true q44 (efD 13 ⟨(some q44), .call (.t q35) [.t q39, .t q43], (some (q34, true)), 8191, false⟩) <|
 gK q34 true q45 (arK lssV (gt q44) (ct (.i .i64 0)) q45) <|
 gK q34 true q46 (notK (gt q45) q46) <|
 pickK (gt q34) (gt q46) (ct (.b false)) q47 <|
 endD <|
 condK (gt q47) (fin) (exitK 2) <|
 blockK 3 (mvK (gt q11) q48 <|
 arK addV (gt q48) (ct (.i .i64 1)) q49 <|
 mvK (gt q49) q11 <|
 fin) <|
 fin) <|
 fin) <|
 blockK 4 (loopK (mvK (gt q11) q50 <|
 mvK (gt q12) q51 <|
 arK leqV (gt q50) (gt q51) q52 <|
 mvK (gt q52) q53 <|
 gK q53 true q54 (mvK (gt q4) q54) <|
 gK q53 true q55 (mvK (gt q0) q55) <|
 gK q53 true q56 (mvK (gt q1) q56) <|
 gK q53 true q57 (iaK 2 (gt q55) (gt q56) q57) <|
 gK q53 true q58 (rdD 8 239 (.ld 2) [(gt q57)] q58) <|
 gK q53 true q59 (mvK (gt q0) q59) <|
 gK q53 true q60 (mvK (gt q12) q60) <|
 gK q53 true q61 (iaK 2 (gt q59) (gt q60) q61) <|
 gK q53 true q62 (rdD 12 3599 (.ld 2) [(gt q61)] q62) <|
 gK q53 true q63 (efD 13 ⟨(some q63), .call (.t q54) [.t q58, .t q62], (some (q53, true)), 8191, false⟩) <|
 gK q53 true q64 (arK lssV (gt q63) (ct (.i .i64 0)) q64) <|
 pickK (gt q53) (gt q64) (ct (.b false)) q65 <|
 endD <|
 condK (gt q65) (fin) (exitK 4) <|
 blockK 5 (mvK (gt q12) q66 <|
 arK subV (gt q66) (ct (.i .i64 1)) q67 <|
 mvK (gt q67) q12 <|
 fin) <|
 fin) <|
 fin) <|
 mvK (gt q11) q68 <|
 mvK (gt q12) q69 <|
 arK gtrV (gt q68) (gt q69) q70 <|
 condK (gt q70) (exitK 0) (fin) <|
 mvK (gt q0) q71 <|
 mvK (gt q11) q72 <|
 mvK (gt q0) q73 <|
 mvK (gt q12) q74 <|
 mvK (gt q0) q75 <|
 mvK (gt q12) q76 <|
 iaK 2 (gt q75) (gt q76) q77 <|
 rdD 7 112 (.ld 2) [(gt q77)] q78 <|
 mvK (gt q0) q79 <|
 mvK (gt q11) q80 <|
 iaK 2 (gt q79) (gt q80) q81 <|
 rdD 11 1792 (.ld 2) [(gt q81)] q82 <|
 iaK 2 (gt q71) (gt q72) q83 <|
 efD 13 ⟨none, .ef (.st 2) [.t q83, .t q78], none, 8179, false⟩ <|
 iaK 2 (gt q73) (gt q74) q84 <|
 efD 15 ⟨none, .ef (.st 2) [.t q84, .t q82], none, 32767, false⟩ <|
 endD <|
 mvK (gt q11) q85 <|
 arK addV (gt q85) (ct (.i .i64 1)) q86 <|
 mvK (gt q86) q11 <|
 mvK (gt q12) q87 <|
 arK subV (gt q87) (ct (.i .i64 1)) q88 <|
 mvK (gt q88) q12 <|
 fin) <|
 fin) <|
 fin) <|
 mvK (gt q11) q89 <|
 mvK (gt q89) q10 <|
 retK⟩
theorem ft268 : (compFn P9 Z9 268).map fastFn = some fn268 := by kernel_rfl
noncomputable def fn269 : FFn := ⟨[.t q10, .t q11],
 mvK (ct (.i .i64 0)) q10 <|
 mvK (ct (.b false)) q11 <|
 mvK (gt q0) q14 <|
 mvK (gt q1) q15 <|
 mvK (gt q0) q16 <|
 mvK (gt q3) q17 <|
 mvK (gt q0) q18 <|
 mvK (gt q3) q19 <|
 iaK 2 (gt q18) (gt q19) q20 <|
 rdD 7 112 (.ld 2) [(gt q20)] q21 <|
 mvK (gt q0) q22 <|
 mvK (gt q1) q23 <|
 iaK 2 (gt q22) (gt q23) q24 <|
 rdD 11 1792 (.ld 2) [(gt q24)] q25 <|
 iaK 2 (gt q14) (gt q15) q26 <|
 efD 13 ⟨none, .ef (.st 2) [.t q26, .t q21], none, 8179, false⟩ <|
 iaK 2 (gt q16) (gt q17) q27 <|
 efD 15 ⟨none, .ef (.st 2) [.t q27, .t q25], none, 32767, false⟩ <|
 endD <|
 mvK (gt q1) q28 <|
 arK addV (gt q28) (ct (.i .i64 1)) q29 <|
 mvK (gt q2) q30 <|
 arK subV (gt q30) (ct (.i .i64 1)) q31 <|
 mvK (gt q29) q12 <|
 mvK (gt q31) q13 <|
 blockK 0 (loopK (mvK (gt q12) q32 <|
 mvK (gt q13) q33 <|
 arK leqV (gt q32) (gt q33) q34 <|
 mvK (gt q34) q35 <|
 gK q35 true q36 (mvK (gt q4) q36) <|
 gK q35 true q37 (mvK (gt q0) q37) <|
 gK q35 true q38 (mvK (gt q12) q38) <|
 gK q35 true q39 (iaK 2 (gt q37) (gt q38) q39) <|
 gK q35 true q40 (rdD 8 239 (.ld 2) [(gt q39)] q40) <|
 gK q35 true q41 (mvK (gt q0) q41) <|
 gK q35 true q42 (mvK (gt q1) q42) <|
 gK q35 true q43 (iaK 2 (gt q41) (gt q42) q43) <|
 gK q35 true q44 (rdD 12 3599 (.ld 2) [(gt q43)] q44) <|
 gK q35 true q45 (efD 13 ⟨(some q45), .call (.t q36) [.t q40, .t q44], (some (q35, true)), 8191, false⟩) <|
 gK q35 true q46 (arK lssV (gt q45) (ct (.i .i64 0)) q46) <|
 pickK (gt q35) (gt q46) (ct (.b false)) q47 <|
 endD <|
 condK (gt q47) (fin) (exitK 0) <|
 blockK 1 (mvK (gt q12) q48 <|
 arK addV (gt q48) (ct (.i .i64 1)) q49 <|
 mvK (gt q49) q12 <|
 fin) <|
 fin) <|
 fin) <|
 blockK 2 (loopK (mvK (gt q12) q50 <|
 mvK (gt q13) q51 <|
 arK leqV (gt q50) (gt q51) q52 <|
 mvK (gt q52) q53 <|
 gK q53 true q54 (mvK (gt q4) q54) <|
 gK q53 true q55 (mvK (gt q0) q55) <|
 gK q53 true q56 (mvK (gt q13) q56) <|
 gK q53 true q57 (iaK 2 (gt q55) (gt q56) q57) <|
 gK q53 true q58 (rdD 8 239 (.ld 2) [(gt q57)] q58) <|
 gK q53 true q59 (mvK (gt q0) q59) <|
 gK q53 true q60 (mvK (gt q1) q60) <|
 gK q53 true q61 (iaK 2 (gt q59) (gt q60) q61) <|
 gK q53 true q62 (rdD 12 3599 (.ld 2) [(gt q61)] q62) <|
 gK q53 true q63 (efD 13 ⟨(some q63), .call (.t q54) [.t q58, .t q62], (some (q53, true)), 8191, false⟩) <|
 gK q53 true q64 (arK lssV (gt q63) (ct (.i .i64 0)) q64) <|
 gK q53 true q65 (notK (gt q64) q65) <|
 pickK (gt q53) (gt q65) (ct (.b false)) q66 <|
 endD <|
 condK (gt q66) (fin) (exitK 2) <|
 blockK 3 (mvK (gt q13) q67 <|
 arK subV (gt q67) (ct (.i .i64 1)) q68 <|
 mvK (gt q68) q13 <|
 fin) <|
 fin) <|
 fin) <|
 mvK (gt q12) q69 <|
 mvK (gt q13) q70 <|
 arK gtrV (gt q69) (gt q70) q71 <|
 condK (gt q71) (mvK (gt q0) q72 <|
 mvK (gt q13) q73 <|
 mvK (gt q0) q74 <|
 mvK (gt q1) q75 <|
 mvK (gt q0) q76 <|
 mvK (gt q1) q77 <|
 iaK 2 (gt q76) (gt q77) q78 <|
 rdD 7 112 (.ld 2) [(gt q78)] q79 <|
 mvK (gt q0) q80 <|
 mvK (gt q13) q81 <|
 iaK 2 (gt q80) (gt q81) q82 <|
 rdD 11 1792 (.ld 2) [(gt q82)] q83 <|
 iaK 2 (gt q72) (gt q73) q84 <|
 efD 13 ⟨none, .ef (.st 2) [.t q84, .t q79], none, 8179, false⟩ <|
 iaK 2 (gt q74) (gt q75) q85 <|
 efD 15 ⟨none, .ef (.st 2) [.t q85, .t q83], none, 32767, false⟩ <|
 endD <|
 mvK (gt q13) q86 <|
 mvK (gt q86) q10 <|
 mvK (ct (.b true)) q11 <|
 retK) (fin) <|
 mvK (gt q0) q87 <|
 mvK (gt q12) q88 <|
 mvK (gt q0) q89 <|
 mvK (gt q13) q90 <|
 mvK (gt q0) q91 <|
 mvK (gt q13) q92 <|
 iaK 2 (gt q91) (gt q92) q93 <|
 rdD 7 112 (.ld 2) [(gt q93)] q94 <|
 mvK (gt q0) q95 <|
 mvK (gt q12) q96 <|
 iaK 2 (gt q95) (gt q96) q97 <|
 rdD 11 1792 (.ld 2) [(gt q97)] q98 <|
 iaK 2 (gt q87) (gt q88) q99 <|
 efD 13 ⟨none, .ef (.st 2) [.t q99, .t q94], none, 8179, false⟩ <|
 iaK 2 (gt q89) (gt q90) q100 <|
 efD 15 ⟨none, .ef (.st 2) [.t q100, .t q98], none, 32767, false⟩ <|
 endD <|
 mvK (gt q12) q101 <|
 arK addV (gt q101) (ct (.i .i64 1)) q102 <|
 mvK (gt q102) q12 <|
 mvK (gt q13) q103 <|
 arK subV (gt q103) (ct (.i .i64 1)) q104 <|
 mvK (gt q104) q13 <|
 blockK 4 (loopK (blockK 5 (blockK 6 (loopK (mvK (gt q12) q105 <|
 mvK (gt q13) q106 <|
 arK leqV (gt q105) (gt q106) q107 <|
 mvK (gt q107) q108 <|
 gK q108 true q109 (mvK (gt q4) q109) <|
 gK q108 true q110 (mvK (gt q0) q110) <|
 gK q108 true q111 (mvK (gt q12) q111) <|
 gK q108 true q112 (iaK 2 (gt q110) (gt q111) q112) <|
 gK q108 true q113 (rdD 8 239 (.ld 2) [(gt q112)] q113) <|
 gK q108 true q114 (mvK (gt q0) q114) <|
 gK q108 true q115 (mvK (gt q1) q115) <|
 gK q108 true q116 (iaK 2 (gt q114) (gt q115) q116) <|
 gK q108 true q117 (rdD 12 3599 (.ld 2) [(gt q116)] q117) <|
 gK q108 true q118 (efD 13 ⟨(some q118), .call (.t q109) [.t q113, .t q117], (some (q108, true)), 8191, false⟩) <|
 gK q108 true q119 (arK lssV (gt q118) (ct (.i .i64 0)) q119) <|
 pickK (gt q108) (gt q119) (ct (.b false)) q120 <|
 endD <|
 condK (gt q120) (fin) (exitK 6) <|
 blockK 7 (mvK (gt q12) q121 <|
 arK addV (gt q121) (ct (.i .i64 1)) q122 <|
 mvK (gt q122) q12 <|
 fin) <|
 fin) <|
 fin) <|
 blockK 8 (loopK (mvK (gt q12) q123 <|
 mvK (gt q13) q124 <|
 arK leqV (gt q123) (gt q124) q125 <|
 mvK (gt q125) q126 <|
 gK q126 true q127 (mvK (gt q4) q127) <|
 gK q126 true q128 (mvK (gt q0) q128) <|
 gK q126 true q129 (mvK (gt q13) q129) <|
 gK q126 true q130 (iaK 2 (gt q128) (gt q129) q130) <|
 gK q126 true q131 (rdD 8 239 (.ld 2) [(gt q130)] q131) <|
 gK q126 true q132 (mvK (gt q0) q132) <|
 gK q126 true q133 (mvK (gt q1) q133) <|
 gK q126 true q134 (iaK 2 (gt q132) (gt q133) q134) <|
 gK q126 true q135 (rdD 12 3599 (.ld 2) [(gt q134)] q135) <|
 gK q126 true q136 (efD 13 ⟨(some q136), .call (.t q127) [.t q131, .t q135], (some (q126, true)), 8191, false⟩) <|
 gK q126 true q137 (arK lssV (gt q136) (ct (.i .i64 0)) q137) <|
 gK q126 true q138 (notK (gt q137) q138) <|
 pickK (gt q126) (gt q138) (ct (.b false)) q139 <|
 endD <|
 condK (gt q139) (fin) (exitK 8) <|
 blockK 9 (mvK (gt q13) q140 <|
 arK subV (gt q140) (ct (.i .i64 1)) q141 <|
 mvK (gt q141) q13 <|
 fin) <|
 fin) <|
 fin) <|
 mvK (gt q12) q142 <|
 mvK (gt q13) q143 <|
 arK gtrV (gt q142) (gt q143) q144 <|
 condK (gt q144) (exitK 4) (fin) <|
 mvK (gt q0) q145 <|
 mvK (gt q12) q146 <|
 mvK (gt q0) q147 <|
 mvK (gt q13) q148 <|
 mvK (gt q0) q149 <|
 mvK (gt q13) q150 <|
 iaK 2 (gt q149) (gt q150) q151 <|
 rdD 7 112 (.ld 2) [(gt q151)] q152 <|
 mvK (gt q0) q153 <|
 mvK (gt q12) q154 <|
 iaK 2 (gt q153) (gt q154) q155 <|
 rdD 11 1792 (.ld 2) [(gt q155)] q156 <|
 iaK 2 (gt q145) (gt q146) q157 <|
 efD 13 ⟨none, .ef (.st 2) [.t q157, .t q152], none, 8179, false⟩ <|
 iaK 2 (gt q147) (gt q148) q158 <|
 efD 15 ⟨none, .ef (.st 2) [.t q158, .t q156], none, 32767, false⟩ <|
 endD <|
 mvK (gt q12) q159 <|
 arK addV (gt q159) (ct (.i .i64 1)) q160 <|
 mvK (gt q160) q12 <|
 mvK (gt q13) q161 <|
 arK subV (gt q161) (ct (.i .i64 1)) q162 <|
 mvK (gt q162) q13 <|
 fin) <|
 fin) <|
 fin) <|
 mvK (gt q0) q163 <|
 mvK (gt q13) q164 <|
 mvK (gt q0) q165 <|
 mvK (gt q1) q166 <|
 mvK (gt q0) q167 <|
 mvK (gt q1) q168 <|
 iaK 2 (gt q167) (gt q168) q169 <|
 rdD 7 112 (.ld 2) [(gt q169)] q170 <|
 mvK (gt q0) q171 <|
 mvK (gt q13) q172 <|
 iaK 2 (gt q171) (gt q172) q173 <|
 rdD 11 1792 (.ld 2) [(gt q173)] q174 <|
 iaK 2 (gt q163) (gt q164) q175 <|
 efD 13 ⟨none, .ef (.st 2) [.t q175, .t q170], none, 8179, false⟩ <|
 iaK 2 (gt q165) (gt q166) q176 <|
 efD 15 ⟨none, .ef (.st 2) [.t q176, .t q174], none, 32767, false⟩ <|
 endD <|
 mvK (gt q13) q177 <|
 mvK (gt q177) q10 <|
 mvK (ct (.b false)) q11 <|
 retK⟩
theorem ft269 : (compFn P9 Z9 269).map fastFn = some fn269 := by kernel_rfl
noncomputable def fn270 : FFn := ⟨[.t q2],
 mvK (ct (.i .i64 0)) q2 <|
 mvK (gt q0) q3 <|
 arK geqV (gt q3) (ct (.i .u32 65536)) q4 <|
 condK (gt q4) (mvK (gt q0) q5 <|
 rK (evBin .shr) [(gt q5), (ct (.i .u64 16))] q6 <|
 mvK (gt q6) q0 <|
 mvK (ct (.i .i64 16)) q2 <|
 fin) (fin) <|
 mvK (gt q0) q7 <|
 arK geqV (gt q7) (ct (.i .u32 256)) q8 <|
 condK (gt q8) (mvK (gt q0) q9 <|
 rK (evBin .shr) [(gt q9), (ct (.i .u64 8))] q10 <|
 mvK (gt q10) q0 <|
 mvK (gt q2) q11 <|
 arK addV (gt q11) (ct (.i .i64 8)) q12 <|
 mvK (gt q12) q2 <|
 fin) (fin) <|
 mvK (gt q2) q13 <|
 mvK (gt q0) q14 <|
 cviK .u8 (gt q14) q15 <|
 rK evIxs [(ct (.s [0, 1, 2, 2, 3, 3, 3, 3, 4, 4, 4, 4, 4, 4, 4, 4, 5, 5, 5, 5, 5, 5, 5, 5, 5, 5, 5, 5, 5, 5, 5, 5, 6, 6, 6, 6, 6, 6, 6, 6, 6, 6, 6, 6, 6, 6, 6, 6, 6, 6, 6, 6, 6, 6, 6, 6, 6, 6, 6, 6, 6, 6, 6, 6, 7, 7, 7, 7, 7, 7, 7, 7, 7, 7, 7, 7, 7, 7, 7, 7, 7, 7, 7, 7, 7, 7, 7, 7, 7, 7, 7, 7, 7, 7, 7, 7, 7, 7, 7, 7, 7, 7, 7, 7, 7, 7, 7, 7, 7, 7, 7, 7, 7, 7, 7, 7, 7, 7, 7, 7, 7, 7, 7, 7, 7, 7, 7, 7, 8, 8, 8, 8, 8, 8, 8, 8, 8, 8, 8, 8, 8, 8, 8, 8, 8, 8, 8, 8, 8, 8, 8, 8, 8, 8, 8, 8, 8, 8, 8, 8, 8, 8, 8, 8, 8, 8, 8, 8, 8, 8, 8, 8, 8, 8, 8, 8, 8, 8, 8, 8, 8, 8, 8, 8, 8, 8, 8, 8, 8, 8, 8, 8, 8, 8, 8, 8, 8, 8, 8, 8, 8, 8, 8, 8, 8, 8, 8, 8, 8, 8, 8, 8, 8, 8, 8, 8, 8, 8, 8, 8, 8, 8, 8, 8, 8, 8, 8, 8, 8, 8, 8, 8, 8, 8, 8, 8, 8, 8, 8, 8, 8, 8, 8, 8, 8, 8, 8, 8, 8, 8, 8, 8, 8, 8, 8, 8])), (gt q15)] q16 <|
 cviK .i64 (gt q16) q17 <|
 arK addV (gt q13) (gt q17) q18 <|
 mvK (gt q18) q2 <|
 retK⟩
theorem ft270 : (compFn P9 Z9 270).map fastFn = some fn270 := by kernel_rfl
noncomputable def fn271 : FFn := ⟨[.t q2],
 mvK (ct (.i .i64 0)) q2 <|
 mvK (gt q0) q3 <|
 arK geqV (gt q3) (ct (.i .u64 4294967296)) q4 <|
 condK (gt q4) (mvK (gt q0) q5 <|
 rK (evBin .shr) [(gt q5), (ct (.i .u64 32))] q6 <|
 mvK (gt q6) q0 <|
 mvK (ct (.i .i64 32)) q2 <|
 fin) (fin) <|
 mvK (gt q0) q7 <|
 arK geqV (gt q7) (ct (.i .u64 65536)) q8 <|
 condK (gt q8) (mvK (gt q0) q9 <|
 rK (evBin .shr) [(gt q9), (ct (.i .u64 16))] q10 <|
 mvK (gt q10) q0 <|
 mvK (gt q2) q11 <|
 arK addV (gt q11) (ct (.i .i64 16)) q12 <|
 mvK (gt q12) q2 <|
 fin) (fin) <|
 mvK (gt q0) q13 <|
 arK geqV (gt q13) (ct (.i .u64 256)) q14 <|
 condK (gt q14) (mvK (gt q0) q15 <|
 rK (evBin .shr) [(gt q15), (ct (.i .u64 8))] q16 <|
 mvK (gt q16) q0 <|
 mvK (gt q2) q17 <|
 arK addV (gt q17) (ct (.i .i64 8)) q18 <|
 mvK (gt q18) q2 <|
 fin) (fin) <|
 mvK (gt q2) q19 <|
 mvK (gt q0) q20 <|
 cviK .u8 (gt q20) q21 <|
 rK evIxs [(ct (.s [0, 1, 2, 2, 3, 3, 3, 3, 4, 4, 4, 4, 4, 4, 4, 4, 5, 5, 5, 5, 5, 5, 5, 5, 5, 5, 5, 5, 5, 5, 5, 5, 6, 6, 6, 6, 6, 6, 6, 6, 6, 6, 6, 6, 6, 6, 6, 6, 6, 6, 6, 6, 6, 6, 6, 6, 6, 6, 6, 6, 6, 6, 6, 6, 7, 7, 7, 7, 7, 7, 7, 7, 7, 7, 7, 7, 7, 7, 7, 7, 7, 7, 7, 7, 7, 7, 7, 7, 7, 7, 7, 7, 7, 7, 7, 7, 7, 7, 7, 7, 7, 7, 7, 7, 7, 7, 7, 7, 7, 7, 7, 7, 7, 7, 7, 7, 7, 7, 7, 7, 7, 7, 7, 7, 7, 7, 7, 7, 8, 8, 8, 8, 8, 8, 8, 8, 8, 8, 8, 8, 8, 8, 8, 8, 8, 8, 8, 8, 8, 8, 8, 8, 8, 8, 8, 8, 8, 8, 8, 8, 8, 8, 8, 8, 8, 8, 8, 8, 8, 8, 8, 8, 8, 8, 8, 8, 8, 8, 8, 8, 8, 8, 8, 8, 8, 8, 8, 8, 8, 8, 8, 8, 8, 8, 8, 8, 8, 8, 8, 8, 8, 8, 8, 8, 8, 8, 8, 8, 8, 8, 8, 8, 8, 8, 8, 8, 8, 8, 8, 8, 8, 8, 8, 8, 8, 8, 8, 8, 8, 8, 8, 8, 8, 8, 8, 8, 8, 8, 8, 8, 8, 8, 8, 8, 8, 8, 8, 8, 8, 8, 8, 8, 8, 8, 8, 8])), (gt q21)] q22 <|
 cviK .i64 (gt q22) q23 <|
 arK addV (gt q19) (gt q23) q24 <|
 mvK (gt q24) q2 <|
 retK⟩
theorem ft271 : (compFn P9 Z9 271).map fastFn = some fn271 := by kernel_rfl
noncomputable def fn272 : FFn := ⟨[.t q3],
 boxK (gt q0) q2 <|
 mvK (ct (.b false)) q3 <|
 rdD 0 0 (.ld 2) [(gt q2)] q4 <|
 ld1D 1 0 (gt q1) q5 <|
 nilckK (gt q5) q6 <|
 faK 0 (gt q6) q7 <|
 ld1D 4 14 (gt q7) q8 <|
 lensK (gt q8) q9 <|
 efD 6 ⟨(some q10), .call (.c (.f q273 [])) [.t q4, .t q9], none, 63, false⟩ <|
 notK (gt q10) q11 <|
 mvK (gt q11) q3 <|
 endD <|
 retK⟩
theorem ft272 : (compFn P9 Z9 272).map fastFn = some fn272 := by kernel_rfl
noncomputable def fn273 : FFn := ⟨[.t q4],
 boxK (gt q0) q2 <|
 mvK (ct (.b false)) q4 <|
 ldK 2 (gt q2) q5 <|
 callK q230 [(gt q5)] q6 <|
 notK (gt q6) q7 <|
 mvK (gt q7) q8 <|
 gK q8 true q9 (ldK 2 (gt q2) q9) <|
 gK q8 true q10 (mvK (gt q1) q10) <|
 gK q8 true q11 (callK q161 [(gt q9), (gt q10)] q11) <|
 pickK (gt q8) (gt q11) (ct (.b false)) q12 <|
 mvK (gt q12) q4 <|
 retK⟩
theorem ft273 : (compFn P9 Z9 273).map fastFn = some fn273 := by kernel_rfl
noncomputable def fn274 : FFn := ⟨[.cell q4 2, .t q5],
 boxK (gt q1) q3 <|
 alK [(.i .u8 0), (.i .i64 0)] 2 q4 <|
 mvK (ct (.i .i64 0)) q5 <|
 blockK 0 (ldK 2 (gt q3) q7 <|
 callK q293 [(gt q7)] q8 <|
 mvK (gt q8) q6 <|
 condK (gt q6) (ldK 2 (gt q3) q9 <|
 stK 2 (gt q4) (gt q9) <|
 mvK (ct (.i .i64 0)) q5 <|
 retK) (faK 0 (gt q3) q11 <|
 ld1K (gt q11) q12 <|
 arK neqV (gt q12) (ct (.i .u8 1)) q13 <|
 mvK (gt q13) q10 <|
 condK (gt q10) (callK q295 [(ct (.i .i64 5))] q14 <|
 stK 2 (gt q4) (gt q14) <|
 mvK (ct (.i .i64 0)) q5 <|
 retK) (faK 1 (gt q3) q16 <|
 ld1K (gt q16) q17 <|
 callK q180 [(gt q17), (ct (.i .i64 0)), (ct (.i .i64 100))] q18 <|
 notK (gt q18) q19 <|
 mvK (gt q19) q15 <|
 condK (gt q15) (callK q295 [(ct (.i .i64 4))] q20 <|
 stK 2 (gt q4) (gt q20) <|
 mvK (ct (.i .i64 0)) q5 <|
 retK) (mvK (gt q0) q22 <|
 nilckK (gt q22) q23 <|
 faK 0 (gt q23) q24 <|
 ld1K (gt q24) q25 <|
 lensK (gt q25) q26 <|
 arK eqlV (gt q26) (ct (.i .i64 400)) q27 <|
 mvK (gt q27) q21 <|
 condK (gt q21) (rK (evBuild [(.i .u8 0), (.i .i64 0)] []) [] q28 <|
 stK 2 (gt q4) (gt q28) <|
 mvK (ct (.i .i64 5)) q5 <|
 retK) (fin) <|
 fin) <|
 fin) <|
 fin) <|
 fin) <|
 mvK (gt q0) q29 <|
 mvK (gt q0) q30 <|
 nilckK (gt q30) q31 <|
 faK 0 (gt q31) q32 <|
 ld1D 4 14 (gt q32) q33 <|
 efD 5 ⟨(some q34), .call (.c (.f q181 [])) [], none, 0, false⟩ <|
 aK (alRows 1 2) [(gt q34)] q35 <|
 faK 1 (gt q3) q36 <|
 ld1D 8 128 (gt q36) q37 <|
 efD 9 ⟨(some q38), .call (.c (.f q314 [])) [.t q35, .t q37], none, 480, false⟩ <|
 rK (evBuild [.sn, .sn] [(0, 1)]) [(gt q38)] q39 <|
 aK (alRows 1 2) [(gt q39)] q40 <|
 efD 12 ⟨(some q41), .ef (.app 2 48) [.t q33, .t q40], none, 4094, false⟩ <|
 nilckK (gt q29) q42 <|
 faK 0 (gt q42) q43 <|
 efD 15 ⟨none, .ef (.st 1) [.t q43, .t q41], none, 32767, false⟩ <|
 endD <|
 mvK (gt q0) q44 <|
 nilckK (gt q44) q45 <|
 faK 0 (gt q45) q46 <|
 ld1K (gt q46) q47 <|
 lensK (gt q47) q48 <|
 arK subV (gt q48) (ct (.i .i64 1)) q49 <|
 rK (evBuild [(.i .u8 0), (.i .i64 0)] [(0, 1), (1, 1)]) [(ct (.i .u8 4)), (gt q49)] q50 <|
 stK 2 (gt q4) (gt q50) <|
 mvK (ct (.i .i64 0)) q5 <|
 retK⟩
theorem ft274 : (compFn P9 Z9 274).map fastFn = some fn274 := by kernel_rfl
noncomputable def fn275 : FFn := ⟨[.cell q8 2, .t q9],
 boxK (gt q1) q5 <|
 boxK (gt q2) q6 <|
 boxK (gt q3) q7 <|
 alK [(.i .u8 0), (.i .i64 0)] 2 q8 <|
 mvK (ct (.i .i64 0)) q9 <|
 mvK (gt q0) q15 <|
 ldK 2 (gt q5) q16 <|
 ldK 2 (gt q6) q17 <|
 callK q315 [(gt q15), (gt q16), (gt q17)] q18 <|
 mvK (gt q18) q10 <|
 blockK 0 (mvK (gt q10) q20 <|
 rK (evEqp false) [(gt q20), (ct .pn)] q21 <|
 mvK (gt q21) q19 <|
 condK (gt q19) (callK q182 [] q22 <|
 stK 2 (gt q8) (gt q22) <|
 mvK (ct (.i .i64 0)) q9 <|
 retK) (mvK (gt q10) q24 <|
 nilckK (gt q24) q25 <|
 ldK 2 (gt q25) q26 <|
 callK q230 [(gt q26)] q27 <|
 notK (gt q27) q28 <|
 mvK (gt q28) q23 <|
 condK (gt q23) (rK (evBuild [(.i .u8 0), (.i .i64 0)] []) [] q29 <|
 stK 2 (gt q8) (gt q29) <|
 mvK (ct (.i .i64 6)) q9 <|
 retK) (fin) <|
 fin) <|
 fin) <|
 mvK (gt q10) q30 <|
 ldK 2 (gt q7) q31 <|
 nilckK (gt q30) q32 <|
 stK 2 (gt q32) (gt q31) <|
 mvK (gt q0) q33 <|
 nilckK (gt q33) q34 <|
 faK 0 (gt q34) q35 <|
 ld1D 3 7 (gt q35) q36 <|
 faK 1 (gt q5) q37 <|
 ld1D 5 16 (gt q37) q38 <|
 iaK 2 (gt q36) (gt q38) q39 <|
 mvK (gt q39) q11 <|
 endD <|
 mvK (ct .sn) q12 <|
 mvK (gt q11) q40 <|
 nilckK (gt q40) q41 <|
 faK 1 (gt q41) q42 <|
 ld1K (gt q42) q43 <|
 lensK (gt q43) q44 <|
 mvK (ct (.i .i64 0)) q45 <|
 blockK 1 (loopK (arK lssV (gt q45) (gt q44) q46 <|
 condK (gt q46) (fin) (exitK 1) <|
 blockK 2 (iaK 2 (gt q43) (gt q45) q47 <|
 ldK 2 (gt q47) q48 <|
 alK [(.i .i64 0), (.i .i64 0)] 2 q14 <|
 stK 2 (gt q14) (gt q48) <|
 faK 0 (gt q14) q49 <|
 ld1K (gt q49) q50 <|
 faK 1 (gt q6) q51 <|
 ld1K (gt q51) q52 <|
 arK neqV (gt q50) (gt q52) q53 <|
 condK (gt q53) (mvK (gt q12) q54 <|
 ldK 2 (gt q14) q55 <|
 aK (alRows 1 2) [(gt q55)] q56 <|
 eK (efApp 2 16) [(gt q54), (gt q56)] q57 <|
 mvK (gt q57) q12 <|
 exitK 2) (fin) <|
 mvK (gt q0) q58 <|
 mvK (gt q0) q59 <|
 nilckK (gt q59) q60 <|
 faK 2 (gt q60) q61 <|
 ld1D 4 14 (gt q61) q62 <|
 faK 1 (gt q14) q63 <|
 ld1D 6 32 (gt q63) q64 <|
 rdD 7 0 (.ld 2) [(gt q7)] q65 <|
 rK (evBuild [(.i .i64 0), (.i .u8 0), (.i .i64 0)] [(0, 1), (1, 2)]) [(gt q64), (gt q65)] q66 <|
 aK (alRows 1 3) [(gt q66)] q67 <|
 efD 10 ⟨(some q68), .ef (.app 3 24) [.t q62, .t q67], none, 1022, false⟩ <|
 nilckK (gt q58) q69 <|
 faK 2 (gt q69) q70 <|
 efD 13 ⟨none, .ef (.st 1) [.t q70, .t q68], none, 8191, false⟩ <|
 endD <|
 mvK (gt q0) q71 <|
 nilckK (gt q71) q72 <|
 faK 1 (gt q72) q73 <|
 ld1K (gt q73) q74 <|
 arK subV (gt q74) (ct (.i .i64 1)) q75 <|
 nilckK (gt q71) q76 <|
 faK 1 (gt q76) q77 <|
 stK 1 (gt q77) (gt q75) <|
 fin) <|
 arK addV (gt q45) (ct (.i .i64 1)) q78 <|
 mvK (gt q78) q45 <|
 fin) <|
 fin) <|
 mvK (gt q11) q79 <|
 mvK (gt q12) q80 <|
 nilckK (gt q79) q81 <|
 faK 1 (gt q81) q82 <|
 stK 1 (gt q82) (gt q80) <|
 callK q182 [] q83 <|
 stK 2 (gt q8) (gt q83) <|
 mvK (ct (.i .i64 0)) q9 <|
 retK⟩
theorem ft275 : (compFn P9 Z9 275).map fastFn = some fn275 := by kernel_rfl
noncomputable def fn276 : FFn := ⟨[.cell q8 2, .t q9],
 boxK (gt q1) q5 <|
 boxK (gt q2) q6 <|
 alK [(.i .u8 0), (.i .i64 0)] 2 q8 <|
 mvK (ct (.i .i64 0)) q9 <|
 mvK (gt q0) q12 <|
 ldK 2 (gt q5) q13 <|
 ldK 2 (gt q6) q14 <|
 callK q315 [(gt q12), (gt q13), (gt q14)] q15 <|
 mvK (gt q15) q10 <|
 blockK 0 (mvK (gt q10) q17 <|
 rK (evEqp true) [(gt q17), (ct .pn)] q18 <|
 mvK (gt q18) q19 <|
 gK q19 true q20 (mvK (gt q10) q20) <|
 gK q19 true q21 (nilckK (gt q20) q21) <|
 gK q19 true q22 (ldK 2 (gt q21) q22) <|
 gK q19 true q23 (callK q230 [(gt q22)] q23) <|
 gK q19 true q24 (notK (gt q23) q24) <|
 pickK (gt q19) (gt q24) (ct (.b false)) q25 <|
 mvK (gt q25) q16 <|
 condK (gt q16) (mvK (gt q10) q26 <|
 nilckK (gt q26) q27 <|
 ldK 2 (gt q27) q28 <|
 stK 2 (gt q8) (gt q28) <|
 mvK (ct (.i .i64 0)) q9 <|
 retK) (mvK (gt q10) q30 <|
 rK (evEqp true) [(gt q30), (ct .pn)] q31 <|
 mvK (gt q31) q32 <|
 gK q32 true q33 (mvK (gt q0) q33) <|
 gK q32 true q34 (nilckK (gt q33) q34) <|
 gK q32 true q35 (faK 1 (gt q34) q35) <|
 gK q32 true q36 (ld1K (gt q35) q36) <|
 gK q32 true q37 (arK eqlV (gt q36) (ct (.i .i64 6000)) q37) <|
 pickK (gt q32) (gt q37) (ct (.b false)) q38 <|
 mvK (gt q38) q29 <|
 condK (gt q29) (rK (evBuild [(.i .u8 0), (.i .i64 0)] []) [] q39 <|
 stK 2 (gt q8) (gt q39) <|
 mvK (ct (.i .i64 5)) q9 <|
 retK) (mvK (gt q10) q41 <|
 rK (evEqp true) [(gt q41), (ct .pn)] q42 <|
 mvK (gt q42) q40 <|
 condK (gt q40) (mvK (gt q0) q43 <|
 nilckK (gt q43) q44 <|
 faK 0 (gt q44) q45 <|
 ld1D 3 7 (gt q45) q46 <|
 faK 1 (gt q5) q47 <|
 ld1D 5 16 (gt q47) q48 <|
 iaK 2 (gt q46) (gt q48) q49 <|
 mvK (gt q49) q11 <|
 endD <|
 mvK (gt q11) q50 <|
 mvK (gt q11) q51 <|
 nilckK (gt q51) q52 <|
 faK 1 (gt q52) q53 <|
 ld1D 4 14 (gt q53) q54 <|
 faK 1 (gt q6) q55 <|
 ld1D 6 32 (gt q55) q56 <|
 mvK (gt q3) q57 <|
 rK (evBuild [(.i .i64 0), (.i .i64 0)] [(0, 1), (1, 1)]) [(gt q56), (gt q57)] q58 <|
 aK (alRows 1 2) [(gt q58)] q59 <|
 efD 10 ⟨(some q60), .ef (.app 2 16) [.t q54, .t q59], none, 1022, false⟩ <|
 nilckK (gt q50) q61 <|
 faK 1 (gt q61) q62 <|
 efD 13 ⟨none, .ef (.st 1) [.t q62, .t q60], none, 8191, false⟩ <|
 endD <|
 mvK (gt q0) q63 <|
 nilckK (gt q63) q64 <|
 faK 1 (gt q64) q65 <|
 ld1K (gt q65) q66 <|
 arK addV (gt q66) (ct (.i .i64 1)) q67 <|
 nilckK (gt q63) q68 <|
 faK 1 (gt q68) q69 <|
 stK 1 (gt q69) (gt q67) <|
 callK q181 [] q70 <|
 stK 2 (gt q8) (gt q70) <|
 mvK (ct (.i .i64 0)) q9 <|
 retK) (ldK 2 (gt q5) q72 <|
 callK q293 [(gt q72)] q73 <|
 mvK (gt q73) q71 <|
 condK (gt q71) (ldK 2 (gt q5) q74 <|
 stK 2 (gt q8) (gt q74) <|
 mvK (ct (.i .i64 0)) q9 <|
 retK) (ldK 2 (gt q6) q76 <|
 callK q293 [(gt q76)] q77 <|
 mvK (gt q77) q75 <|
 condK (gt q75) (ldK 2 (gt q6) q78 <|
 stK 2 (gt q8) (gt q78) <|
 mvK (ct (.i .i64 0)) q9 <|
 retK) (faK 0 (gt q5) q80 <|
 ld1K (gt q80) q81 <|
 arK eqlV (gt q81) (ct (.i .u8 3)) q82 <|
 mvK (gt q82) q79 <|
 condK (gt q79) (fin) (faK 0 (gt q5) q83 <|
 ld1K (gt q83) q84 <|
 arK eqlV (gt q84) (ct (.i .u8 4)) q85 <|
 mvK (gt q85) q86 <|
 gK q86 true q87 (faK 0 (gt q6) q87) <|
 gK q86 true q88 (ld1K (gt q87) q88) <|
 gK q86 true q89 (arK eqlV (gt q88) (ct (.i .u8 1)) q89) <|
 pickK (gt q86) (gt q89) (ct (.b false)) q90 <|
 mvK (gt q90) q79 <|
 fin) <|
 condK (gt q79) (callK q295 [(ct (.i .i64 3))] q91 <|
 stK 2 (gt q8) (gt q91) <|
 mvK (ct (.i .i64 0)) q9 <|
 retK) (fin) <|
 fin) <|
 fin) <|
 fin) <|
 fin) <|
 fin) <|
 fin) <|
 callK q295 [(ct (.i .i64 5))] q92 <|
 stK 2 (gt q8) (gt q92) <|
 mvK (ct (.i .i64 0)) q9 <|
 retK⟩
theorem ft276 : (compFn P9 Z9 276).map fastFn = some fn276 := by kernel_rfl
noncomputable def fn277 : FFn := ⟨[.cell q4 2],
 boxK (gt q1) q3 <|
 alK [(.i .u8 0), (.i .i64 0)] 2 q4 <|
 faK 0 (gt q3) q5 <|
 ld1K (gt q5) q6 <|
 blockK 0 (arK eqlV (gt q6) (ct (.i .u8 4)) q8 <|
 mvK (gt q8) q7 <|
 condK (gt q7) (mvK (gt q0) q9 <|
 nilckK (gt q9) q10 <|
 faK 0 (gt q10) q11 <|
 ld1D 3 7 (gt q11) q12 <|
 faK 1 (gt q3) q13 <|
 ld1D 5 16 (gt q13) q14 <|
 iaK 2 (gt q12) (gt q14) q15 <|
 faK 0 (gt q15) q16 <|
 ld1D 8 255 (gt q16) q17 <|
 lensK (gt q17) q18 <|
 efD 10 ⟨(some q19), .call (.c (.f q184 [])) [.t q18], none, 1023, false⟩ <|
 efD 11 ⟨none, .ef (.st 2) [.t q4, .t q19], none, 2047, false⟩ <|
 endD <|
 retK) (arK eqlV (gt q6) (ct (.i .u8 5)) q21 <|
 mvK (gt q21) q20 <|
 condK (gt q20) (ldK 2 (gt q3) q22 <|
 stK 2 (gt q4) (gt q22) <|
 retK) (fin) <|
 fin) <|
 fin) <|
 callK q295 [(ct (.i .i64 5))] q23 <|
 stK 2 (gt q4) (gt q23) <|
 retK⟩
theorem ft277 : (compFn P9 Z9 277).map fastFn = some fn277 := by kernel_rfl
noncomputable def fn278 : FFn := ⟨[.cell q4 2],
 alK [(.i .u8 0), (.i .i64 0)] 2 q4 <|
 mvK (gt q0) q5 <|
 mvK (gt q1) q6 <|
 arK addV (gt q5) (gt q6) q7 <|
 callK q279 [(gt q7)] q8 <|
 stK 2 (gt q4) (gt q8) <|
 retK⟩
theorem ft278 : (compFn P9 Z9 278).map fastFn = some fn278 := by kernel_rfl
noncomputable def fn279 : FFn := ⟨[.cell q2 2],
 alK [(.i .u8 0), (.i .i64 0)] 2 q2 <|
 mvK (gt q0) q3 <|
 callK q180 [(gt q3), (ct (.i .i64 (-1000000000))), (ct (.i .i64 1000000000))] q4 <|
 notK (gt q4) q5 <|
 condK (gt q5) (callK q295 [(ct (.i .i64 2))] q6 <|
 stK 2 (gt q2) (gt q6) <|
 retK) (fin) <|
 mvK (gt q0) q7 <|
 callK q184 [(gt q7)] q8 <|
 stK 2 (gt q2) (gt q8) <|
 retK⟩
theorem ft279 : (compFn P9 Z9 279).map fastFn = some fn279 := by kernel_rfl
noncomputable def fn280 : FFn := ⟨[.cell q4 2],
 alK [(.i .u8 0), (.i .i64 0)] 2 q4 <|
 mvK (gt q0) q5 <|
 mvK (gt q1) q6 <|
 arK subV (gt q5) (gt q6) q7 <|
 callK q279 [(gt q7)] q8 <|
 stK 2 (gt q4) (gt q8) <|
 retK⟩
theorem ft280 : (compFn P9 Z9 280).map fastFn = some fn280 := by kernel_rfl
noncomputable def fn281 : FFn := ⟨[.cell q4 2],
 alK [(.i .u8 0), (.i .i64 0)] 2 q4 <|
 mvK (gt q0) q5 <|
 mvK (gt q1) q6 <|
 arK mulV (gt q5) (gt q6) q7 <|
 callK q279 [(gt q7)] q8 <|
 stK 2 (gt q4) (gt q8) <|
 retK⟩
theorem ft281 : (compFn P9 Z9 281).map fastFn = some fn281 := by kernel_rfl
noncomputable def fn282 : FFn := ⟨[.cell q4 2],
 boxK (gt q0) q2 <|
 boxK (gt q1) q3 <|
 alK [(.i .u8 0), (.i .i64 0)] 2 q4 <|
 ld1K (gt q3) q5 <|
 anyK ⟨(some q6), .rd (.mkf q284) [.t q2, .t q3], none, 0, false⟩ <|
 callK q283 [(gt q5), (gt q6)] q7 <|
 stK 2 (gt q4) (gt q7) <|
 retK⟩
theorem ft282 : (compFn P9 Z9 282).map fastFn = some fn282 := by kernel_rfl
noncomputable def fn283 : FFn := ⟨[.cell q4 2],
 alK [(.i .u8 0), (.i .i64 0)] 2 q4 <|
 mvK (gt q0) q5 <|
 arK eqlV (gt q5) (ct (.i .i64 0)) q6 <|
 condK (gt q6) (callK q295 [(ct (.i .i64 1))] q7 <|
 stK 2 (gt q4) (gt q7) <|
 retK) (fin) <|
 mvK (gt q1) q8 <|
 dynK (gt q8) [] q9 <|
 callK q279 [(gt q9)] q10 <|
 stK 2 (gt q4) (gt q10) <|
 retK⟩
theorem ft283 : (compFn P9 Z9 283).map fastFn = some fn283 := by kernel_rfl
noncomputable def fn284 : FFn := ⟨[.t q2],
 mvK (ct (.i .i64 0)) q2 <|
 ld1K (gt q0) q3 <|
 ld1K (gt q1) q4 <|
 rK (evBin .quo) [(gt q3), (gt q4)] q5 <|
 mvK (gt q5) q2 <|
 retK⟩
theorem ft284 : (compFn P9 Z9 284).map fastFn = some fn284 := by kernel_rfl
noncomputable def fn285 : FFn := ⟨[.cell q4 2],
 boxK (gt q0) q2 <|
 boxK (gt q1) q3 <|
 alK [(.i .u8 0), (.i .i64 0)] 2 q4 <|
 ld1K (gt q3) q5 <|
 anyK ⟨(some q6), .rd (.mkf q286) [.t q2, .t q3], none, 0, false⟩ <|
 callK q283 [(gt q5), (gt q6)] q7 <|
 stK 2 (gt q4) (gt q7) <|
 retK⟩
theorem ft285 : (compFn P9 Z9 285).map fastFn = some fn285 := by kernel_rfl
noncomputable def fn286 : FFn := ⟨[.t q2],
 mvK (ct (.i .i64 0)) q2 <|
 ld1K (gt q0) q3 <|
 ld1K (gt q1) q4 <|
 rK (evBin .rem) [(gt q3), (gt q4)] q5 <|
 mvK (gt q5) q2 <|
 retK⟩
theorem ft286 : (compFn P9 Z9 286).map fastFn = some fn286 := by kernel_rfl
noncomputable def fn287 : FFn := ⟨[.cell q4 2],
 alK [(.i .u8 0), (.i .i64 0)] 2 q4 <|
 mvK (gt q0) q5 <|
 anyK ⟨(some q6), .rd .neg [.t q5], none, 0, false⟩ <|
 callK q279 [(gt q6)] q7 <|
 stK 2 (gt q4) (gt q7) <|
 retK⟩
theorem ft287 : (compFn P9 Z9 287).map fastFn = some fn287 := by kernel_rfl
noncomputable def fn288 : FFn := ⟨[.cell q4 2],
 alK [(.i .u8 0), (.i .i64 0)] 2 q4 <|
 mvK (gt q0) q5 <|
 mvK (gt q1) q6 <|
 arK lssV (gt q5) (gt q6) q7 <|
 callK q289 [(gt q7)] q8 <|
 stK 2 (gt q4) (gt q8) <|
 retK⟩
theorem ft288 : (compFn P9 Z9 288).map fastFn = some fn288 := by kernel_rfl
noncomputable def fn289 : FFn := ⟨[.cell q2 2],
 alK [(.i .u8 0), (.i .i64 0)] 2 q2 <|
 rK (evBuild [(.i .u8 0), (.i .i64 0)] [(0, 1)]) [(ct (.i .u8 2))] q4 <|
 alK [(.i .u8 0), (.i .i64 0)] 2 q3 <|
 stK 2 (gt q3) (gt q4) <|
 mvK (gt q0) q5 <|
 condK (gt q5) (faK 1 (gt q3) q6 <|
 stK 1 (gt q6) (ct (.i .i64 1)) <|
 fin) (fin) <|
 ldK 2 (gt q3) q7 <|
 stK 2 (gt q2) (gt q7) <|
 retK⟩
theorem ft289 : (compFn P9 Z9 289).map fastFn = some fn289 := by kernel_rfl
noncomputable def fn290 : FFn := ⟨[.cell q4 2],
 alK [(.i .u8 0), (.i .i64 0)] 2 q4 <|
 mvK (gt q0) q5 <|
 mvK (gt q1) q6 <|
 arK leqV (gt q5) (gt q6) q7 <|
 callK q289 [(gt q7)] q8 <|
 stK 2 (gt q4) (gt q8) <|
 retK⟩
theorem ft290 : (compFn P9 Z9 290).map fastFn = some fn290 := by kernel_rfl
noncomputable def fn291 : FFn := ⟨[.cell q4 2],
 alK [(.i .u8 0), (.i .i64 0)] 2 q4 <|
 mvK (gt q0) q5 <|
 mvK (gt q1) q6 <|
 arK eqlV (gt q5) (gt q6) q7 <|
 callK q289 [(gt q7)] q8 <|
 stK 2 (gt q4) (gt q8) <|
 retK⟩
theorem ft291 : (compFn P9 Z9 291).map fastFn = some fn291 := by kernel_rfl
noncomputable def fn292 : FFn := ⟨[.cell q4 2],
 alK [(.i .u8 0), (.i .i64 0)] 2 q4 <|
 mvK (gt q0) q5 <|
 arK eqlV (gt q5) (ct (.i .i64 0)) q6 <|
 callK q289 [(gt q6)] q7 <|
 stK 2 (gt q4) (gt q7) <|
 retK⟩
theorem ft292 : (compFn P9 Z9 292).map fastFn = some fn292 := by kernel_rfl
noncomputable def fn293 : FFn := ⟨[.t q2],
 boxK (gt q0) q1 <|
 mvK (ct (.b false)) q2 <|
 faK 0 (gt q1) q3 <|
 ld1K (gt q3) q4 <|
 arK eqlV (gt q4) (ct (.i .u8 5)) q5 <|
 mvK (gt q5) q2 <|
 retK⟩
theorem ft293 : (compFn P9 Z9 293).map fastFn = some fn293 := by kernel_rfl
noncomputable def fn294 : FFn := ⟨[.t q4],
 mvK (ct (.b false)) q4 <|
 mvK (gt q0) q5 <|
 mvK (gt q1) q6 <|
 callK q316 [(gt q5), (gt q6)] q7 <|
 arK geqV (gt q7) (ct (.i .i64 0)) q8 <|
 mvK (gt q8) q4 <|
 retK⟩
theorem ft294 : (compFn P9 Z9 294).map fastFn = some fn294 := by kernel_rfl
noncomputable def fn295 : FFn := ⟨[.cell q2 2],
 alK [(.i .u8 0), (.i .i64 0)] 2 q2 <|
 mvK (gt q0) q3 <|
 rK (evBuild [(.i .u8 0), (.i .i64 0)] [(0, 1), (1, 1)]) [(ct (.i .u8 5)), (gt q3)] q4 <|
 stK 2 (gt q2) (gt q4) <|
 retK⟩
theorem ft295 : (compFn P9 Z9 295).map fastFn = some fn295 := by kernel_rfl
noncomputable def fn296 : FFn := ⟨[.t q4],
 mvK (ct (.i .i64 0)) q4 <|
 mvK (gt q0) q6 <|
 lensK (gt q6) q7 <|
 mvK (ct (.i .i64 0)) q8 <|
 blockK 0 (loopK (arK lssV (gt q8) (gt q7) q9 <|
 condK (gt q9) (fin) (exitK 0) <|
 blockK 1 (mvK (gt q8) q10 <|
 mvK (gt q10) q5 <|
 mvK (gt q1) q11 <|
 mvK (gt q0) q12 <|
 mvK (gt q5) q13 <|
 iaK 2 (gt q12) (gt q13) q14 <|
 ldK 2 (gt q14) q15 <|
 dynK (gt q11) [(gt q15)] q16 <|
 condK (gt q16) (mvK (gt q5) q17 <|
 mvK (gt q17) q4 <|
 retK) (fin) <|
 fin) <|
 arK addV (gt q8) (ct (.i .i64 1)) q18 <|
 mvK (gt q18) q8 <|
 fin) <|
 fin) <|
 mvK (ct (.i .i64 (-1))) q4 <|
 retK⟩
theorem ft296 : (compFn P9 Z9 296).map fastFn = some fn296 := by kernel_rfl
noncomputable def fn297 : FFn := ⟨[.t q5],
 boxK (gt q0) q4 <|
 mvK (ct (.b false)) q5 <|
 ld1K (gt q1) q6 <|
 ldK 5 (gt q2) q7 <|
 ldK 2 (gt q4) q8 <|
 ld1K (gt q3) q9 <|
 callK q298 [(gt q6), (gt q7), (gt q8), (gt q9)] q10 <|
 notK (gt q10) q11 <|
 mvK (gt q11) q5 <|
 retK⟩
theorem ft297 : (compFn P9 Z9 297).map fastFn = some fn297 := by kernel_rfl
noncomputable def fn298 : FFn := ⟨[.t q8],
 boxK (gt q1) q5 <|
 boxK (gt q2) q6 <|
 mvK (ct (.b false)) q8 <|
 faK 1 (gt q5) q10 <|
 ld1K (gt q10) q11 <|
 mvK (gt q11) q9 <|
 blockK 0 (faK 0 (gt q6) q13 <|
 ld1K (gt q13) q14 <|
 arK lssV (gt q14) (ct (.i .i64 (-1))) q15 <|
 mvK (gt q15) q16 <|
 gK q16 false q17 (faK 0 (gt q6) q17) <|
 gK q16 false q18 (ld1K (gt q17) q18) <|
 gK q16 false q19 (mvK (gt q3) q19) <|
 gK q16 false q20 (arK geqV (gt q18) (gt q19) q20) <|
 pickK (gt q16) (ct (.b true)) (gt q20) q21 <|
 mvK (gt q21) q22 <|
 gK q22 false q23 (faK 1 (gt q6) q23) <|
 gK q22 false q24 (ld1K (gt q23) q24) <|
 gK q22 false q25 (arK lssV (gt q24) (ct (.i .i64 0)) q25) <|
 pickK (gt q22) (ct (.b true)) (gt q25) q26 <|
 mvK (gt q26) q12 <|
 condK (gt q12) (mvK (ct (.b false)) q8 <|
 retK) (faK 0 (gt q6) q28 <|
 ld1K (gt q28) q29 <|
 arK neqV (gt q29) (ct (.i .i64 (-1))) q30 <|
 mvK (gt q30) q27 <|
 condK (gt q27) (mvK (gt q0) q31 <|
 faK 2 (gt q5) q32 <|
 ld1K (gt q32) q33 <|
 faK 0 (gt q6) q34 <|
 ld1K (gt q34) q35 <|
 iaK 4 (gt q33) (gt q35) q36 <|
 ldK 4 (gt q36) q37 <|
 callK q241 [(gt q31), (gt q37)] q38 <|
 mvK (gt q38) q9 <|
 fin) (fin) <|
 fin) <|
 fin) <|
 faK 1 (gt q6) q39 <|
 ld1K (gt q39) q40 <|
 mvK (gt q9) q41 <|
 arK lssV (gt q40) (gt q41) q42 <|
 mvK (gt q42) q8 <|
 retK⟩
theorem ft298 : (compFn P9 Z9 298).map fastFn = some fn298 := by kernel_rfl
noncomputable def fn299 : FFn := ⟨[.t q2],
 mvK (ct (.i .i64 0)) q2 <|
 callK q245 [] q3 <|
 mvK (gt q0) q4 <|
 hK (evLook false [2] (.agg [(.i .i64 0), .sn, .fn]) false) [(gt q3), (gt q4)] q5 <|
 anyK ⟨(some q6), .rd (.fld1 0) [.t q5], none, 0, false⟩ <|
 mvK (gt q6) q2 <|
 retK⟩
theorem ft299 : (compFn P9 Z9 299).map fastFn = some fn299 := by kernel_rfl
noncomputable def fn309 : FFn := ⟨[],
 mvK (gt q1) q12 <|
 mvK (gt q12) q10 <|
 blockK 0 (loopK (blockK 1 (mvK (gt q10) q13 <|
 arK mulV (ct (.i .i64 2)) (gt q13) q14 <|
 arK addV (gt q14) (ct (.i .i64 1)) q15 <|
 mvK (gt q15) q11 <|
 mvK (gt q11) q16 <|
 mvK (gt q2) q17 <|
 arK geqV (gt q16) (gt q17) q18 <|
 condK (gt q18) (exitK 0) (fin) <|
 mvK (gt q11) q19 <|
 arK addV (gt q19) (ct (.i .i64 1)) q20 <|
 mvK (gt q2) q21 <|
 arK lssV (gt q20) (gt q21) q22 <|
 mvK (gt q22) q23 <|
 gK q23 true q24 (mvK (gt q4) q24) <|
 gK q23 true q25 (mvK (gt q0) q25) <|
 gK q23 true q26 (mvK (gt q3) q26) <|
 gK q23 true q27 (mvK (gt q11) q27) <|
 gK q23 true q28 (arK addV (gt q26) (gt q27) q28) <|
 gK q23 true q29 (iaK 2 (gt q25) (gt q28) q29) <|
 gK q23 true q30 (rdD 11 2015 (.ld 2) [(gt q29)] q30) <|
 gK q23 true q31 (mvK (gt q0) q31) <|
 gK q23 true q32 (mvK (gt q3) q32) <|
 gK q23 true q33 (mvK (gt q11) q33) <|
 gK q23 true q34 (arK addV (gt q32) (gt q33) q34) <|
 gK q23 true q35 (arK addV (gt q34) (ct (.i .i64 1)) q35) <|
 gK q23 true q36 (iaK 2 (gt q31) (gt q35) q36) <|
 gK q23 true q37 (rdD 18 258079 (.ld 2) [(gt q36)] q37) <|
 gK q23 true q38 (efD 19 ⟨(some q38), .call (.t q24) [.t q30, .t q37], (some (q23, true)), 524287, false⟩) <|
 gK q23 true q39 (arK lssV (gt q38) (ct (.i .i64 0)) q39) <|
 pickK (gt q23) (gt q39) (ct (.b false)) q40 <|
 endD <|
 condK (gt q40) (mvK (gt q11) q41 <|
 arK addV (gt q41) (ct (.i .i64 1)) q42 <|
 mvK (gt q42) q11 <|
 fin) (fin) <|
 mvK (gt q4) q43 <|
 mvK (gt q0) q44 <|
 mvK (gt q3) q45 <|
 mvK (gt q10) q46 <|
 arK addV (gt q45) (gt q46) q47 <|
 iaK 2 (gt q44) (gt q47) q48 <|
 rdD 6 62 (.ld 2) [(gt q48)] q49 <|
 mvK (gt q0) q50 <|
 mvK (gt q3) q51 <|
 mvK (gt q11) q52 <|
 arK addV (gt q51) (gt q52) q53 <|
 iaK 2 (gt q50) (gt q53) q54 <|
 rdD 12 3968 (.ld 2) [(gt q54)] q55 <|
 efD 13 ⟨(some q56), .call (.t q43) [.t q49, .t q55], none, 8191, false⟩ <|
 arK lssV (gt q56) (ct (.i .i64 0)) q57 <|
 notK (gt q57) q58 <|
 endD <|
 condK (gt q58) (retK) (fin) <|
 mvK (gt q0) q59 <|
 mvK (gt q3) q60 <|
 mvK (gt q10) q61 <|
 arK addV (gt q60) (gt q61) q62 <|
 mvK (gt q0) q63 <|
 mvK (gt q3) q64 <|
 mvK (gt q11) q65 <|
 arK addV (gt q64) (gt q65) q66 <|
 mvK (gt q0) q67 <|
 mvK (gt q3) q68 <|
 mvK (gt q11) q69 <|
 arK addV (gt q68) (gt q69) q70 <|
 iaK 2 (gt q67) (gt q70) q71 <|
 rdD 13 7936 (.ld 2) [(gt q71)] q72 <|
 mvK (gt q0) q73 <|
 mvK (gt q3) q74 <|
 mvK (gt q10) q75 <|
 arK addV (gt q74) (gt q75) q76 <|
 iaK 2 (gt q73) (gt q76) q77 <|
 rdD 19 507904 (.ld 2) [(gt q77)] q78 <|
 iaK 2 (gt q59) (gt q62) q79 <|
 efD 21 ⟨none, .ef (.st 2) [.t q79, .t q72], none, 2096911, false⟩ <|
 iaK 2 (gt q63) (gt q66) q80 <|
 efD 23 ⟨none, .ef (.st 2) [.t q80, .t q78], none, 8388607, false⟩ <|
 endD <|
 mvK (gt q11) q81 <|
 mvK (gt q81) q10 <|
 fin) <|
 fin) <|
 fin) <|
 fin⟩
theorem ft309 : (compFn P9 Z9 309).map fastFn = some fn309 := by kernel_rfl
noncomputable def fn310 : FFn := ⟨[.t q2],
 mvK (ct (.i .u64 0)) q2 <|
 mvK (gt q0) q3 <|
 cviK .u64 (gt q3) q4 <|
 callK q238 [(gt q4)] q5 <|
 rK (evBin .shl) [(ct (.i .u64 1)), (gt q5)] q6 <|
 mvK (gt q6) q2 <|
 retK⟩
theorem ft310 : (compFn P9 Z9 310).map fastFn = some fn310 := by kernel_rfl
noncomputable def fn311 : FFn := ⟨[.t q2],
 mvK (ct (.i .u64 0)) q2 <|
 mvK (gt q0) q3 <|
 nilckK (gt q3) q4 <|
 ld1D 2 3 (gt q4) q5 <|
 mvK (gt q0) q6 <|
 nilckK (gt q6) q7 <|
 ld1D 5 24 (gt q7) q8 <|
 rK (evBin .shl) [(gt q8), (ct (.i .u64 13))] q9 <|
 rK (evBin .xor) [(gt q5), (gt q9)] q10 <|
 nilckK (gt q3) q11 <|
 efD 9 ⟨none, .ef (.st 1) [.t q11, .t q10], none, 511, false⟩ <|
 endD <|
 mvK (gt q0) q12 <|
 nilckK (gt q12) q13 <|
 ld1D 2 3 (gt q13) q14 <|
 mvK (gt q0) q15 <|
 nilckK (gt q15) q16 <|
 ld1D 5 24 (gt q16) q17 <|
 rK (evBin .shr) [(gt q17), (ct (.i .u64 7))] q18 <|
 rK (evBin .xor) [(gt q14), (gt q18)] q19 <|
 nilckK (gt q12) q20 <|
 efD 9 ⟨none, .ef (.st 1) [.t q20, .t q19], none, 511, false⟩ <|
 endD <|
 mvK (gt q0) q21 <|
 nilckK (gt q21) q22 <|
 ld1D 2 3 (gt q22) q23 <|
 mvK (gt q0) q24 <|
 nilckK (gt q24) q25 <|
 ld1D 5 24 (gt q25) q26 <|
 rK (evBin .shl) [(gt q26), (ct (.i .u64 17))] q27 <|
 rK (evBin .xor) [(gt q23), (gt q27)] q28 <|
 nilckK (gt q21) q29 <|
 efD 9 ⟨none, .ef (.st 1) [.t q29, .t q28], none, 511, false⟩ <|
 endD <|
 mvK (gt q0) q30 <|
 nilckK (gt q30) q31 <|
 ld1K (gt q31) q32 <|
 mvK (gt q32) q2 <|
 retK⟩
theorem ft311 : (compFn P9 Z9 311).map fastFn = some fn311 := by kernel_rfl
noncomputable def fn312 : FFn := ⟨[.t q8],
 mvK (ct (.i .i64 0)) q8 <|
 mvK (gt q0) q9 <|
 mvK (gt q1) q10 <|
 arK subV (gt q10) (ct (.i .i64 1)) q11 <|
 mvK (gt q1) q12 <|
 mvK (gt q1) q13 <|
 arK addV (gt q13) (ct (.i .i64 1)) q14 <|
 mvK (gt q2) q15 <|
 mvK (gt q3) q16 <|
 callK q313 [(gt q9), (gt q11), (gt q12), (gt q14), (gt q15), (gt q16)] q17 <|
 mvK (gt q17) q8 <|
 retK⟩
theorem ft312 : (compFn P9 Z9 312).map fastFn = some fn312 := by kernel_rfl
noncomputable def fn313 : FFn := ⟨[.t q12],
 mvK (ct (.i .i64 0)) q12 <|
 mvK (gt q0) q14 <|
 mvK (gt q1) q15 <|
 mvK (gt q2) q16 <|
 mvK (gt q4) q17 <|
 mvK (gt q5) q18 <|
 callK q320 [(gt q14), (gt q15), (gt q16), (gt q17), (gt q18)] q19 <|
 mvK (gt q19) q13 <|
 extK 0 (gt q13) q20 <|
 extK 1 (gt q13) q21 <|
 mvK (gt q20) q1 <|
 mvK (gt q21) q2 <|
 mvK (gt q0) q23 <|
 mvK (gt q2) q24 <|
 mvK (gt q3) q25 <|
 mvK (gt q4) q26 <|
 mvK (gt q5) q27 <|
 callK q320 [(gt q23), (gt q24), (gt q25), (gt q26), (gt q27)] q28 <|
 mvK (gt q28) q22 <|
 extK 0 (gt q22) q29 <|
 extK 1 (gt q22) q30 <|
 mvK (gt q29) q2 <|
 mvK (gt q30) q3 <|
 mvK (gt q0) q32 <|
 mvK (gt q1) q33 <|
 mvK (gt q2) q34 <|
 mvK (gt q4) q35 <|
 mvK (gt q5) q36 <|
 callK q320 [(gt q32), (gt q33), (gt q34), (gt q35), (gt q36)] q37 <|
 mvK (gt q37) q31 <|
 extK 0 (gt q31) q38 <|
 extK 1 (gt q31) q39 <|
 mvK (gt q38) q1 <|
 mvK (gt q39) q2 <|
 mvK (gt q2) q40 <|
 mvK (gt q40) q12 <|
 retK⟩
theorem ft313 : (compFn P9 Z9 313).map fastFn = some fn313 := by kernel_rfl
noncomputable def fn314 : FFn := ⟨[.t q4],
 mvK (ct .sn) q4 <|
 mvK (gt q1) q9 <|
 arK lssV (gt q9) (ct (.i .i64 0)) q10 <|
 condK (gt q10) (anyK ⟨(some q11), .rd (.mki 9) [.c (.s [99, 97, 110, 110, 111, 116, 32, 98, 101, 32, 110, 101, 103, 97, 116, 105, 118, 101])], none, 0, false⟩ <|
 anyK ⟨none, .bad, none, 0, false⟩ <|
 fin) (fin) <|
 mvK (gt q0) q13 <|
 lensK (gt q13) q14 <|
 cviK .u64 (gt q14) q15 <|
 mvK (gt q1) q16 <|
 cviK .u64 (gt q16) q17 <|
 callK q321 [(gt q15), (gt q17)] q18 <|
 mvK (gt q18) q12 <|
 extK 0 (gt q12) q19 <|
 extK 1 (gt q12) q20 <|
 mvK (gt q19) q5 <|
 mvK (gt q20) q6 <|
 mvK (gt q5) q21 <|
 arK gtrV (gt q21) (ct (.i .u64 0)) q22 <|
 mvK (gt q22) q23 <|
 gK q23 false q24 (mvK (gt q6) q24) <|
 gK q23 false q25 (arK gtrV (gt q24) (ct (.i .u64 9223372036854775807)) q25) <|
 pickK (gt q23) (ct (.b true)) (gt q25) q26 <|
 condK (gt q26) (anyK ⟨(some q27), .rd (.mki 9) [.c (.s [116, 104, 101, 32, 114, 101, 115, 117, 108, 116, 32, 111, 102, 32, 40, 108, 101, 110, 40, 120, 41, 32, 42, 32, 99, 111, 117, 110, 116, 41, 32, 111, 118, 101, 114, 102, 108, 111, 119, 115])], none, 0, false⟩ <|
 anyK ⟨none, .bad, none, 0, false⟩ <|
 fin) (fin) <|
 mvK (gt q6) q28 <|
 cviK .i64 (gt q28) q29 <|
 anyK ⟨(some q30), .al (.mks [(.i .u8 0), (.i .i64 0)] 2 16) [.t q29, .t q29], none, 0, false⟩ <|
 mvK (gt q30) q7 <|
 mvK (gt q7) q31 <|
 mvK (gt q0) q32 <|
 anyK ⟨(some q33), .ef (.copy 2) [.t q31, .t q32], none, 0, false⟩ <|
 mvK (gt q33) q8 <|
 blockK 0 (loopK (mvK (gt q8) q34 <|
 mvK (gt q7) q35 <|
 lensK (gt q35) q36 <|
 arK lssV (gt q34) (gt q36) q37 <|
 condK (gt q37) (fin) (exitK 0) <|
 blockK 1 (mvK (gt q8) q38 <|
 mvK (gt q7) q39 <|
 mvK (gt q8) q40 <|
 rK (evSlc 2 true false) [(gt q39), (gt q40)] q41 <|
 mvK (gt q7) q42 <|
 mvK (gt q8) q43 <|
 rK (evSlc 2 false true) [(gt q42), (gt q43)] q44 <|
 efD 7 ⟨(some q45), .ef (.copy 2) [.t q41, .t q44], none, 126, false⟩ <|
 arK addV (gt q38) (gt q45) q46 <|
 mvK (gt q46) q8 <|
 endD <|
 fin) <|
 fin) <|
 fin) <|
 mvK (gt q7) q47 <|
 mvK (gt q47) q4 <|
 retK⟩
theorem ft314 : (compFn P9 Z9 314).map fastFn = some fn314 := by kernel_rfl
noncomputable def fn315 : FFn := ⟨[.t q6],
 boxK (gt q1) q4 <|
 boxK (gt q2) q5 <|
 mvK (ct .pn) q6 <|
 faK 0 (gt q4) q7 <|
 ld1D 1 1 (gt q7) q8 <|
 arK neqV (gt q8) (ct (.i .u8 4)) q9 <|
 mvK (gt q9) q10 <|
 gK q10 false q11 (faK 0 (gt q5) q11) <|
 gK q10 false q12 (ld1D 5 31 (gt q11) q12) <|
 gK q10 false q13 (arK neqV (gt q12) (ct (.i .u8 1)) q13) <|
 pickK (gt q10) (ct (.b true)) (gt q13) q14 <|
 mvK (gt q14) q15 <|
 gK q15 false q16 (faK 1 (gt q5) q16) <|
 gK q15 false q17 (ld1D 10 1023 (gt q16) q17) <|
 gK q15 false q18 (mvK (gt q0) q18) <|
 gK q15 false q19 (nilckK (gt q18) q19) <|
 gK q15 false q20 (faK 0 (gt q19) q20) <|
 gK q15 false q21 (ld1D 14 14847 (gt q20) q21) <|
 gK q15 false q22 (faK 1 (gt q4) q22) <|
 gK q15 false q23 (ld1D 16 33279 (gt q22) q23) <|
 gK q15 false q24 (iaK 2 (gt q21) (gt q23) q24) <|
 gK q15 false q25 (faK 0 (gt q24) q25) <|
 gK q15 false q26 (ld1D 19 522751 (gt q25) q26) <|
 gK q15 false q27 (lensK (gt q26) q27) <|
 gK q15 false q28 (arK subV (gt q27) (ct (.i .i64 1)) q28) <|
 gK q15 false q29 (efD 22 ⟨(some q29), .call (.c (.f q180 [])) [.t q17, .c (.i .i64 0), .t q28], (some (q15, false)), 4194303, false⟩) <|
 gK q15 false q30 (notK (gt q29) q30) <|
 pickK (gt q15) (ct (.b true)) (gt q30) q31 <|
 endD <|
 condK (gt q31) (mvK (ct .pn) q6 <|
 retK) (fin) <|
 mvK (gt q0) q32 <|
 nilckK (gt q32) q33 <|
 faK 0 (gt q33) q34 <|
 ld1D 3 7 (gt q34) q35 <|
 faK 1 (gt q4) q36 <|
 ld1D 5 16 (gt q36) q37 <|
 iaK 2 (gt q35) (gt q37) q38 <|
 faK 0 (gt q38) q39 <|
 ld1D 8 255 (gt q39) q40 <|
 faK 1 (gt q5) q41 <|
 ld1D 10 512 (gt q41) q42 <|
 iaK 2 (gt q40) (gt q42) q43 <|
 mvK (gt q43) q6 <|
 endD <|
 retK⟩
theorem ft315 : (compFn P9 Z9 315).map fastFn = some fn315 := by kernel_rfl
noncomputable def fn316 : FFn := ⟨[.t q4],
 mvK (ct (.i .i64 0)) q4 <|
 mvK (gt q0) q6 <|
 lensK (gt q6) q7 <|
 mvK (ct (.i .i64 0)) q8 <|
 blockK 0 (loopK (arK lssV (gt q8) (gt q7) q9 <|
 condK (gt q9) (fin) (exitK 0) <|
 blockK 1 (mvK (gt q8) q10 <|
 mvK (gt q10) q5 <|
 mvK (gt q1) q11 <|
 mvK (gt q0) q12 <|
 mvK (gt q5) q13 <|
 iaK 1 (gt q12) (gt q13) q14 <|
 ld1K (gt q14) q15 <|
 arK eqlV (gt q11) (gt q15) q16 <|
 condK (gt q16) (mvK (gt q5) q17 <|
 mvK (gt q17) q4 <|
 retK) (fin) <|
 fin) <|
 arK addV (gt q8) (ct (.i .i64 1)) q18 <|
 mvK (gt q18) q8 <|
 fin) <|
 fin) <|
 mvK (ct (.i .i64 (-1))) q4 <|
 retK⟩
theorem ft316 : (compFn P9 Z9 316).map fastFn = some fn316 := by kernel_rfl
noncomputable def fn320 : FFn := ⟨[.t q10, .t q11],
 mvK (ct (.i .i64 0)) q10 <|
 mvK (ct (.i .i64 0)) q11 <|
 mvK (gt q4) q12 <|
 mvK (gt q0) q13 <|
 mvK (gt q2) q14 <|
 iaK 2 (gt q13) (gt q14) q15 <|
 rdD 4 14 (.ld 2) [(gt q15)] q16 <|
 mvK (gt q0) q17 <|
 mvK (gt q1) q18 <|
 iaK 2 (gt q17) (gt q18) q19 <|
 rdD 8 224 (.ld 2) [(gt q19)] q20 <|
 efD 9 ⟨(some q21), .call (.t q12) [.t q16, .t q20], none, 511, false⟩ <|
 arK lssV (gt q21) (ct (.i .i64 0)) q22 <|
 endD <|
 condK (gt q22) (mvK (gt q3) q23 <|
 nilckK (gt q23) q24 <|
 ld1K (gt q24) q25 <|
 arK addV (gt q25) (ct (.i .i64 1)) q26 <|
 nilckK (gt q23) q27 <|
 stK 1 (gt q27) (gt q26) <|
 mvK (gt q2) q28 <|
 mvK (gt q1) q29 <|
 mvK (gt q28) q10 <|
 mvK (gt q29) q11 <|
 retK) (fin) <|
 mvK (gt q1) q30 <|
 mvK (gt q2) q31 <|
 mvK (gt q30) q10 <|
 mvK (gt q31) q11 <|
 retK⟩
theorem ft320 : (compFn P9 Z9 320).map fastFn = some fn320 := by kernel_rfl
noncomputable def fn321 : FFn := ⟨[.t q4, .t q5],
 mvK (ct (.i .u64 0)) q4 <|
 mvK (ct (.i .u64 0)) q5 <|
 condK (ct (.b false)) (mvK (gt q0) q11 <|
 cviK .u32 (gt q11) q12 <|
 mvK (gt q1) q13 <|
 cviK .u32 (gt q13) q14 <|
 callK q323 [(gt q12), (gt q14)] q15 <|
 mvK (gt q15) q10 <|
 extK 0 (gt q10) q16 <|
 extK 1 (gt q10) q17 <|
 mvK (gt q16) q6 <|
 mvK (gt q17) q7 <|
 mvK (gt q6) q18 <|
 cviK .u64 (gt q18) q19 <|
 mvK (gt q7) q20 <|
 cviK .u64 (gt q20) q21 <|
 mvK (gt q19) q4 <|
 mvK (gt q21) q5 <|
 retK) (fin) <|
 mvK (gt q0) q23 <|
 mvK (gt q1) q24 <|
 callK q324 [(gt q23), (gt q24)] q25 <|
 mvK (gt q25) q22 <|
 extK 0 (gt q22) q26 <|
 extK 1 (gt q22) q27 <|
 mvK (gt q26) q8 <|
 mvK (gt q27) q9 <|
 mvK (gt q8) q28 <|
 mvK (gt q9) q29 <|
 mvK (gt q28) q4 <|
 mvK (gt q29) q5 <|
 retK⟩
theorem ft321 : (compFn P9 Z9 321).map fastFn = some fn321 := by kernel_rfl
noncomputable def fn323 : FFn := ⟨[.t q4, .t q5],
 mvK (ct (.i .u32 0)) q4 <|
 mvK (ct (.i .u32 0)) q5 <|
 mvK (gt q0) q7 <|
 cviK .u64 (gt q7) q8 <|
 mvK (gt q1) q9 <|
 cviK .u64 (gt q9) q10 <|
 arK mulV (gt q8) (gt q10) q11 <|
 mvK (gt q11) q6 <|
 mvK (gt q6) q12 <|
 rK (evBin .shr) [(gt q12), (ct (.i .u64 32))] q13 <|
 cviK .u32 (gt q13) q14 <|
 mvK (gt q6) q15 <|
 cviK .u32 (gt q15) q16 <|
 mvK (gt q14) q4 <|
 mvK (gt q16) q5 <|
 retK⟩
theorem ft323 : (compFn P9 Z9 323).map fastFn = some fn323 := by kernel_rfl
noncomputable def fn324 : FFn := ⟨[.t q4, .t q5],
 mvK (ct (.i .u64 0)) q4 <|
 mvK (ct (.i .u64 0)) q5 <|
 mvK (gt q0) q14 <|
 rK (evBin .and) [(gt q14), (ct (.i .u64 4294967295))] q15 <|
 mvK (gt q15) q6 <|
 mvK (gt q0) q16 <|
 rK (evBin .shr) [(gt q16), (ct (.i .u64 32))] q17 <|
 mvK (gt q17) q7 <|
 mvK (gt q1) q18 <|
 rK (evBin .and) [(gt q18), (ct (.i .u64 4294967295))] q19 <|
 mvK (gt q19) q8 <|
 mvK (gt q1) q20 <|
 rK (evBin .shr) [(gt q20), (ct (.i .u64 32))] q21 <|
 mvK (gt q21) q9 <|
 mvK (gt q6) q22 <|
 mvK (gt q8) q23 <|
 arK mulV (gt q22) (gt q23) q24 <|
 mvK (gt q24) q10 <|
 mvK (gt q7) q25 <|
 mvK (gt q8) q26 <|
 arK mulV (gt q25) (gt q26) q27 <|
 mvK (gt q10) q28 <|
 rK (evBin .shr) [(gt q28), (ct (.i .u64 32))] q29 <|
 arK addV (gt q27) (gt q29) q30 <|
 mvK (gt q30) q11 <|
 mvK (gt q11) q31 <|
 rK (evBin .and) [(gt q31), (ct (.i .u64 4294967295))] q32 <|
 mvK (gt q32) q12 <|
 mvK (gt q11) q33 <|
 rK (evBin .shr) [(gt q33), (ct (.i .u64 32))] q34 <|
 mvK (gt q34) q13 <|
 mvK (gt q12) q35 <|
 mvK (gt q6) q36 <|
 mvK (gt q9) q37 <|
 arK mulV (gt q36) (gt q37) q38 <|
 arK addV (gt q35) (gt q38) q39 <|
 mvK (gt q39) q12 <|
 mvK (gt q7) q40 <|
 mvK (gt q9) q41 <|
 arK mulV (gt q40) (gt q41) q42 <|
 mvK (gt q13) q43 <|
 arK addV (gt q42) (gt q43) q44 <|
 mvK (gt q12) q45 <|
 rK (evBin .shr) [(gt q45), (ct (.i .u64 32))] q46 <|
 arK addV (gt q44) (gt q46) q47 <|
 mvK (gt q47) q4 <|
 mvK (gt q0) q48 <|
 mvK (gt q1) q49 <|
 arK mulV (gt q48) (gt q49) q50 <|
 mvK (gt q50) q5 <|
 retK⟩
theorem ft324 : (compFn P9 Z9 324).map fastFn = some fn324 := by kernel_rfl
end Go.Proofs.YtkfdbldnghcngaaGreat.Fast
