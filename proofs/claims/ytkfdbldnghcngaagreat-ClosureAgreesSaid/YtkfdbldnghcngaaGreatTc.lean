/- The seat's functions as closures. -/
import Derived.Test.YtkfdbldnghcngaaGreatTq
namespace Go.Proofs.YtkfdbldnghcngaaGreat.Fast
open Go.Fg
noncomputable def fn197 : FFn := ⟨[.t q4, .t q5],
 mvK (ct (.b false)) q4 <|
 mvK (ct (.i .i64 0)) q5 <|
 mvK (gt q0) q11 <|
 nilckK (gt q11) q12 <|
 faK 0 (gt q12) q13 <|
 ld1D 3 7 (gt q13) q14 <|
 mvK (gt q1) q15 <|
 nilckK (gt q15) q16 <|
 faK 0 (gt q16) q17 <|
 faK 0 (gt q17) q18 <|
 ld1D 8 240 (gt q18) q19 <|
 iaK 5 (gt q14) (gt q19) q20 <|
 faK 4 (gt q20) q21 <|
 ld1D 11 2047 (gt q21) q22 <|
 lensK (gt q22) q23 <|
 mvK (ct (.i .i64 0)) q24 <|
 endD <|
 blockK 0 (loopK (arK lssV (gt q24) (gt q23) q25 <|
 condK (gt q25) (fin) (exitK 0) <|
 blockK 1 (mvK (gt q24) q26 <|
 iaK 2 (gt q22) (gt q24) q27 <|
 ldK 2 (gt q27) q28 <|
 alK [(.i .i64 0), (.i .i64 0)] 2 q7 <|
 mvK (gt q26) q6 <|
 stK 2 (gt q7) (gt q28) <|
 mvK (gt q1) q29 <|
 ldK 2 (gt q7) q30 <|
 callK q92 [(gt q29), (gt q30)] q31 <|
 alK [(.i .u8 0), (.i .i64 0)] 2 q8 <|
 stK 2 (gt q8) (gt q31) <|
 ldK 2 (gt q8) q32 <|
 callK q174 [(gt q32)] q33 <|
 notK (gt q33) q34 <|
 condK (gt q34) (exitK 1) (fin) <|
 mvK (gt q0) q36 <|
 mvK (gt q1) q37 <|
 mvK (gt q6) q38 <|
 rdD 3 0 (.ld 2) [(gt q8)] q39 <|
 mvK (gt q1) q40 <|
 nilckK (gt q40) q41 <|
 faK 0 (gt q41) q42 <|
 faK 3 (gt q42) q43 <|
 ld1D 8 240 (gt q43) q44 <|
 rK (evBuild [(.i .i64 0), (.b false), (.b false)] [(0, 1), (2, 1)]) [(gt q44), (ct (.b true))] q45 <|
 efD 10 ⟨(some q46), .call (.c (.f q249 [])) [.t q36, .t q37, .t q38, .t q39, .t q45], none, 1023, false⟩ <|
 mvK (gt q46) q35 <|
 extK 0 (gt q35) q47 <|
 extK 1 (gt q35) q48 <|
 mvK (gt q47) q9 <|
 mvK (gt q48) q10 <|
 endD <|
 mvK (gt q10) q49 <|
 arK neqV (gt q49) (ct (.i .i64 0)) q50 <|
 condK (gt q50) (mvK (gt q4) q51 <|
 mvK (gt q10) q52 <|
 mvK (gt q51) q4 <|
 mvK (gt q52) q5 <|
 retK) (fin) <|
 mvK (gt q4) q53 <|
 mvK (gt q53) q54 <|
 gK q54 false q55 (mvK (gt q9) q55) <|
 pickK (gt q54) (ct (.b true)) (gt q55) q56 <|
 mvK (gt q56) q4 <|
 fin) <|
 arK addV (gt q24) (ct (.i .i64 1)) q57 <|
 mvK (gt q57) q24 <|
 fin) <|
 fin) <|
 mvK (gt q4) q58 <|
 mvK (gt q58) q4 <|
 mvK (ct (.i .i64 0)) q5 <|
 retK⟩
theorem ft197 : (compFn P9 Z9 197).map fastFn = some fn197 := by kernel_rfl
noncomputable def fn198 : FFn := ⟨[.t q4, .t q5],
 mvK (ct (.b false)) q4 <|
 mvK (ct (.i .i64 0)) q5 <|
 mvK (gt q0) q11 <|
 nilckK (gt q11) q12 <|
 faK 0 (gt q12) q13 <|
 ld1D 3 7 (gt q13) q14 <|
 mvK (gt q1) q15 <|
 nilckK (gt q15) q16 <|
 faK 0 (gt q16) q17 <|
 faK 0 (gt q17) q18 <|
 ld1D 8 240 (gt q18) q19 <|
 iaK 5 (gt q14) (gt q19) q20 <|
 rdD 10 1023 (.ld 5) [(gt q20)] q21 <|
 alK [(.s []), (.i .i64 0), .sn, .sn, .sn] 5 q6 <|
 efD 12 ⟨none, .ef (.st 5) [.t q6, .t q21], none, 4095, false⟩ <|
 endD <|
 mvK (gt q1) q22 <|
 faK 3 (gt q6) q23 <|
 ld1K (gt q23) q24 <|
 iaK 2 (gt q24) (ct (.i .i64 0)) q25 <|
 ldK 2 (gt q25) q26 <|
 callK q92 [(gt q22), (gt q26)] q27 <|
 alK [(.i .u8 0), (.i .i64 0)] 2 q7 <|
 stK 2 (gt q7) (gt q27) <|
 blockK 0 (ldK 2 (gt q7) q29 <|
 callK q174 [(gt q29)] q30 <|
 notK (gt q30) q31 <|
 mvK (gt q31) q28 <|
 condK (gt q28) (mvK (ct (.b false)) q4 <|
 mvK (ct (.i .i64 0)) q5 <|
 retK) (ldK 2 (gt q7) q33 <|
 callK q189 [(gt q33)] q34 <|
 mvK (gt q34) q32 <|
 condK (gt q32) (mvK (gt q0) q35 <|
 mvK (gt q1) q36 <|
 ldK 2 (gt q7) q37 <|
 callK q250 [(gt q35), (gt q36), (gt q37)] q38 <|
 extK 0 (gt q38) q39 <|
 extK 1 (gt q38) q40 <|
 mvK (gt q39) q4 <|
 mvK (gt q40) q5 <|
 retK) (mvK (gt q1) q42 <|
 nilckK (gt q42) q43 <|
 faK 7 (gt q43) q44 <|
 ld1K (gt q44) q45 <|
 arK eqlV (gt q45) (ct (.i .i64 (-1))) q46 <|
 mvK (gt q46) q41 <|
 condK (gt q41) (mvK (gt q0) q47 <|
 mvK (gt q1) q48 <|
 nilckK (gt q48) q49 <|
 faK 0 (gt q49) q50 <|
 faK 0 (gt q50) q51 <|
 ld1D 5 30 (gt q51) q52 <|
 mvK (gt q1) q53 <|
 nilckK (gt q53) q54 <|
 faK 0 (gt q54) q55 <|
 faK 1 (gt q55) q56 <|
 ld1D 10 960 (gt q56) q57 <|
 mvK (gt q1) q58 <|
 nilckK (gt q58) q59 <|
 faK 0 (gt q59) q60 <|
 faK 2 (gt q60) q61 <|
 ld1D 15 30720 (gt q61) q62 <|
 mvK (gt q1) q63 <|
 nilckK (gt q63) q64 <|
 faK 0 (gt q64) q65 <|
 faK 3 (gt q65) q66 <|
 ld1D 20 983040 (gt q66) q67 <|
 arK addV (gt q67) (ct (.i .i64 1)) q68 <|
 rdD 22 0 (.ld 2) [(gt q7)] q69 <|
 efD 23 ⟨(some q70), .call (.c (.f q190 [])) [.t q47, .t q52, .t q57, .t q62, .t q68, .t q69], none, 8388607, false⟩ <|
 mvK (gt q70) q8 <|
 endD <|
 mvK (gt q8) q71 <|
 arK neqV (gt q71) (ct (.i .i64 0)) q72 <|
 condK (gt q72) (mvK (gt q8) q73 <|
 mvK (ct (.b false)) q4 <|
 mvK (gt q73) q5 <|
 retK) (fin) <|
 mvK (gt q1) q74 <|
 mvK (gt q0) q75 <|
 nilckK (gt q75) q76 <|
 faK 2 (gt q76) q77 <|
 ld1K (gt q77) q78 <|
 lensK (gt q78) q79 <|
 arK subV (gt q79) (ct (.i .i64 1)) q80 <|
 nilckK (gt q74) q81 <|
 faK 7 (gt q81) q82 <|
 stK 1 (gt q82) (gt q80) <|
 mvK (ct (.b true)) q4 <|
 fin) (fin) <|
 fin) <|
 fin) <|
 fin) <|
 faK 3 (gt q6) q83 <|
 ld1K (gt q83) q84 <|
 lensK (gt q84) q85 <|
 mvK (ct (.i .i64 0)) q86 <|
 blockK 1 (loopK (arK lssV (gt q86) (gt q85) q87 <|
 condK (gt q87) (fin) (exitK 1) <|
 blockK 2 (mvK (gt q86) q88 <|
 iaK 2 (gt q84) (gt q86) q89 <|
 ldK 2 (gt q89) q90 <|
 alK [(.i .i64 0), (.i .i64 0)] 2 q10 <|
 mvK (gt q88) q9 <|
 stK 2 (gt q10) (gt q90) <|
 mvK (gt q0) q91 <|
 nilckK (gt q91) q92 <|
 faK 2 (gt q92) q93 <|
 ld1D 3 7 (gt q93) q94 <|
 mvK (gt q1) q95 <|
 nilckK (gt q95) q96 <|
 faK 7 (gt q96) q97 <|
 ld1D 7 112 (gt q97) q98 <|
 iaK 1 (gt q94) (gt q98) q99 <|
 ld1D 9 511 (gt q99) q100 <|
 mvK (gt q9) q101 <|
 mvK (gt q1) q102 <|
 rdD 12 0 (.ld 2) [(gt q10)] q103 <|
 efD 13 ⟨(some q104), .call (.c (.f q92 [])) [.t q102, .t q103], none, 6144, false⟩ <|
 efD 14 ⟨(some q105), .call (.c (.f q248 [])) [.t q100, .t q101, .t q104], none, 16383, false⟩ <|
 mvK (gt q105) q106 <|
 gK q106 false q107 (mvK (gt q4) q107) <|
 pickK (gt q106) (ct (.b true)) (gt q107) q108 <|
 mvK (gt q108) q4 <|
 endD <|
 fin) <|
 arK addV (gt q86) (ct (.i .i64 1)) q109 <|
 mvK (gt q109) q86 <|
 fin) <|
 fin) <|
 mvK (gt q4) q110 <|
 mvK (gt q110) q4 <|
 mvK (ct (.i .i64 0)) q5 <|
 retK⟩
theorem ft198 : (compFn P9 Z9 198).map fastFn = some fn198 := by kernel_rfl
noncomputable def fn219 : FFn := ⟨[.t q2],
 mvK (ct (.b false)) q2 <|
 mvK (gt q0) q3 <|
 mvK (gt q0) q4 <|
 arK neqV (gt q3) (gt q4) q5 <|
 mvK (gt q5) q2 <|
 retK⟩
theorem ft219 : (compFn P9 Z9 219).map fastFn = some fn219 := by kernel_rfl
noncomputable def fn220 : FFn := ⟨[.t q4],
 boxK (gt q0) q2 <|
 boxK (gt q1) q3 <|
 mvK (ct (.b false)) q4 <|
 faK 0 (gt q2) q5 <|
 ld1K (gt q5) q6 <|
 lensK (gt q6) q7 <|
 arK gtrV (gt q7) (ct (.i .i64 100)) q8 <|
 mvK (gt q8) q9 <|
 gK q9 false q10 (faK 0 (gt q2) q10) <|
 gK q9 false q11 (ld1K (gt q10) q11) <|
 gK q9 false q12 (anyK ⟨(some q12), .rd (.mkf q253) [.t q3], (some (q9, false)), 0, false⟩) <|
 gK q9 false q13 (callK q159 [(gt q11), (gt q12)] q13) <|
 pickK (gt q9) (ct (.b true)) (gt q13) q14 <|
 condK (gt q14) (mvK (ct (.b false)) q4 <|
 retK) (fin) <|
 faK 1 (gt q2) q15 <|
 ld1K (gt q15) q16 <|
 anyK ⟨(some q17), .rd (.mkf q255) [.t q2], none, 0, false⟩ <|
 callK q254 [(gt q16), (gt q17)] q18 <|
 notK (gt q18) q19 <|
 mvK (gt q19) q4 <|
 retK⟩
theorem ft220 : (compFn P9 Z9 220).map fastFn = some fn220 := by kernel_rfl
noncomputable def fn221 : FFn := ⟨[.t q2],
 mvK (ct .sn) q2 <|
 mvK (gt q0) q3 <|
 rK (evEqs false) [(gt q3), (ct .sn)] q4 <|
 condK (gt q4) (mvK (ct .sn) q2 <|
 retK) (fin) <|
 aK (alRows 0 2) [] q5 <|
 mvK (gt q0) q6 <|
 eK (efApp 2 16) [(gt q5), (gt q6)] q7 <|
 mvK (gt q7) q2 <|
 retK⟩
theorem ft221 : (compFn P9 Z9 221).map fastFn = some fn221 := by kernel_rfl
noncomputable def fn222 : FFn := ⟨[.t q2],
 mvK (ct .sn) q2 <|
 mvK (gt q0) q3 <|
 rK (evEqs false) [(gt q3), (ct .sn)] q4 <|
 condK (gt q4) (mvK (ct .sn) q2 <|
 retK) (fin) <|
 aK (alRows 0 2) [] q5 <|
 mvK (gt q0) q6 <|
 eK (efApp 2 16) [(gt q5), (gt q6)] q7 <|
 mvK (gt q7) q2 <|
 retK⟩
theorem ft222 : (compFn P9 Z9 222).map fastFn = some fn222 := by kernel_rfl
noncomputable def fn223 : FFn := ⟨[.t q4],
 mvK (ct (.i .i64 0)) q4 <|
 mvK (gt q0) q6 <|
 lensK (gt q6) q7 <|
 mvK (ct (.i .i64 0)) q8 <|
 blockK 0 (loopK (arK lssV (gt q8) (gt q7) q9 <|
 condK (gt q9) (fin) (exitK 0) <|
 blockK 1 (mvK (gt q8) q10 <|
 mvK (gt q10) q5 <|
 mvK (gt q1) q11 <|
 mvK (gt q0) q12 <|
 mvK (gt q5) q13 <|
 iaK 2 (gt q12) (gt q13) q14 <|
 ldK 2 (gt q14) q15 <|
 dynK (gt q11) [(gt q15)] q16 <|
 condK (gt q16) (mvK (gt q5) q17 <|
 mvK (gt q17) q4 <|
 retK) (fin) <|
 fin) <|
 arK addV (gt q8) (ct (.i .i64 1)) q18 <|
 mvK (gt q18) q8 <|
 fin) <|
 fin) <|
 mvK (ct (.i .i64 (-1))) q4 <|
 retK⟩
theorem ft223 : (compFn P9 Z9 223).map fastFn = some fn223 := by kernel_rfl
noncomputable def fn224 : FFn := ⟨[.t q4],
 mvK (ct .sn) q4 <|
 mvK (gt q1) q9 <|
 lensK (gt q9) q10 <|
 mvK (ct (.i .i64 0)) q11 <|
 blockK 0 (loopK (arK lssV (gt q11) (gt q10) q12 <|
 condK (gt q12) (fin) (exitK 0) <|
 blockK 1 (iaK 2 (gt q9) (gt q11) q13 <|
 ldK 2 (gt q13) q14 <|
 alK [(.i .u8 0), (.i .i64 0)] 2 q6 <|
 stK 2 (gt q6) (gt q14) <|
 faK 0 (gt q6) q15 <|
 ld1K (gt q15) q16 <|
 arK eqlV (gt q16) (ct (.i .u8 4)) q17 <|
 condK (gt q17) (mvK (gt q0) q19 <|
 nilckK (gt q19) q20 <|
 faK 0 (gt q20) q21 <|
 ld1D 3 7 (gt q21) q22 <|
 faK 1 (gt q6) q23 <|
 ld1D 5 16 (gt q23) q24 <|
 rdD 6 63 (.look false [0] (.i .i64 0) true) [(gt q22), (gt q24)] q25 <|
 mvK (gt q25) q18 <|
 extK 0 (gt q18) q26 <|
 extK 1 (gt q18) q27 <|
 mvK (gt q26) q7 <|
 mvK (gt q27) q8 <|
 endD <|
 mvK (gt q8) q28 <|
 notK (gt q28) q29 <|
 condK (gt q29) (mvK (gt q0) q30 <|
 nilckK (gt q30) q31 <|
 faK 1 (gt q31) q32 <|
 ld1K (gt q32) q33 <|
 lensK (gt q33) q34 <|
 mvK (gt q34) q7 <|
 mvK (gt q0) q35 <|
 nilckK (gt q35) q36 <|
 faK 0 (gt q36) q37 <|
 ld1D 3 7 (gt q37) q38 <|
 faK 1 (gt q6) q39 <|
 ld1D 5 16 (gt q39) q40 <|
 mvK (gt q0) q41 <|
 mvK (gt q7) q42 <|
 mvK (gt q0) q43 <|
 nilckK (gt q43) q44 <|
 faK 1 (gt q44) q45 <|
 ld1D 11 1792 (gt q45) q46 <|
 faK 1 (gt q6) q47 <|
 ld1D 13 4096 (gt q47) q48 <|
 aK (alRows 1 1) [(gt q48)] q49 <|
 efD 15 ⟨(some q50), .ef (.app 1 8) [.t q46, .t q49], none, 32512, false⟩ <|
 efD 16 ⟨(some q51), .ef (.ment false [0] (.i .i64 0)) [.t q38, .t q40], none, 65343, false⟩ <|
 extK 1 (gt q51) q52 <|
 efD 18 ⟨none, .ef .esto [.t q38, .t q52, .t q42], none, 262079, false⟩ <|
 nilckK (gt q41) q53 <|
 faK 1 (gt q53) q54 <|
 efD 21 ⟨none, .ef (.st 1) [.t q54, .t q50], none, 2097151, false⟩ <|
 endD <|
 fin) (fin) <|
 mvK (gt q7) q55 <|
 faK 1 (gt q6) q56 <|
 stK 1 (gt q56) (gt q55) <|
 fin) (fin) <|
 mvK (gt q4) q57 <|
 ldK 2 (gt q6) q58 <|
 aK (alRows 1 2) [(gt q58)] q59 <|
 eK (efApp 2 16) [(gt q57), (gt q59)] q60 <|
 mvK (gt q60) q4 <|
 fin) <|
 arK addV (gt q11) (ct (.i .i64 1)) q61 <|
 mvK (gt q61) q11 <|
 fin) <|
 fin) <|
 mvK (gt q4) q62 <|
 mvK (gt q62) q4 <|
 retK⟩
theorem ft224 : (compFn P9 Z9 224).map fastFn = some fn224 := by kernel_rfl
noncomputable def fn230 : FFn := ⟨[.t q2],
 boxK (gt q0) q1 <|
 mvK (ct (.b false)) q2 <|
 faK 0 (gt q1) q3 <|
 ld1K (gt q3) q4 <|
 arK eqlV (gt q4) (ct (.i .u8 0)) q5 <|
 mvK (gt q5) q2 <|
 retK⟩
theorem ft230 : (compFn P9 Z9 230).map fastFn = some fn230 := by kernel_rfl
noncomputable def fn231 : FFn := ⟨[.t q4],
 mvK (ct (.b false)) q4 <|
 mvK (gt q0) q5 <|
 mvK (gt q1) q6 <|
 callK q257 [(gt q5), (gt q6)] q7 <|
 arK geqV (gt q7) (ct (.i .i64 0)) q8 <|
 mvK (gt q8) q4 <|
 retK⟩
theorem ft231 : (compFn P9 Z9 231).map fastFn = some fn231 := by kernel_rfl
noncomputable def fn232 : FFn := ⟨[.t q3],
 boxK (gt q0) q2 <|
 mvK (ct (.b false)) q3 <|
 ld1K (gt q1) q4 <|
 ldK 5 (gt q2) q5 <|
 callK q233 [(gt q4), (gt q5)] q6 <|
 notK (gt q6) q7 <|
 mvK (gt q7) q3 <|
 retK⟩
theorem ft232 : (compFn P9 Z9 232).map fastFn = some fn232 := by kernel_rfl
noncomputable def fn233 : FFn := ⟨[.t q4],
 boxK (gt q1) q3 <|
 mvK (ct (.b false)) q4 <|
 faK 2 (gt q3) q10 <|
 ld1K (gt q10) q11 <|
 lensK (gt q11) q12 <|
 mvK (gt q12) q5 <|
 faK 0 (gt q3) q13 <|
 ld1K (gt q13) q14 <|
 callK q258 [(gt q14)] q15 <|
 notK (gt q15) q16 <|
 mvK (gt q16) q17 <|
 gK q17 false q18 (faK 1 (gt q3) q18) <|
 gK q17 false q19 (ld1K (gt q18) q19) <|
 gK q17 false q20 (arK lssV (gt q19) (ct (.i .i64 1)) q20) <|
 pickK (gt q17) (ct (.b true)) (gt q20) q21 <|
 mvK (gt q21) q22 <|
 gK q22 false q23 (ldK 5 (gt q3) q23) <|
 gK q22 false q24 (callK q234 [(gt q23)] q24) <|
 gK q22 false q25 (mvK (gt q24) q25) <|
 gK q25 true q26 (faK 3 (gt q3) q26) <|
 gK q25 true q27 (ld1K (gt q26) q27) <|
 gK q25 true q28 (lensK (gt q27) q28) <|
 gK q25 true q29 (faK 1 (gt q3) q29) <|
 gK q25 true q30 (ld1K (gt q29) q30) <|
 gK q25 true q31 (arK neqV (gt q28) (gt q30) q31) <|
 gK q22 false q32 (pickK (gt q25) (gt q31) (ct (.b false)) q32) <|
 pickK (gt q22) (ct (.b true)) (gt q32) q33 <|
 mvK (gt q33) q34 <|
 gK q34 false q35 (mvK (gt q0) q35) <|
 gK q34 false q36 (ldK 5 (gt q3) q36) <|
 gK q34 false q37 (faK 3 (gt q3) q37) <|
 gK q34 false q38 (ld1K (gt q37) q38) <|
 gK q34 false q39 (mvK (gt q5) q39) <|
 gK q34 false q40 (callK q259 [(gt q35), (gt q36), (gt q38), (gt q39)] q40) <|
 gK q34 false q41 (notK (gt q40) q41) <|
 pickK (gt q34) (ct (.b true)) (gt q41) q42 <|
 mvK (gt q42) q43 <|
 gK q43 false q44 (mvK (gt q0) q44) <|
 gK q43 false q45 (ldK 5 (gt q3) q45) <|
 gK q43 false q46 (faK 4 (gt q3) q46) <|
 gK q43 false q47 (ld1K (gt q46) q47) <|
 gK q43 false q48 (mvK (gt q5) q48) <|
 gK q43 false q49 (callK q259 [(gt q44), (gt q45), (gt q47), (gt q48)] q49) <|
 gK q43 false q50 (notK (gt q49) q50) <|
 pickK (gt q43) (ct (.b true)) (gt q50) q51 <|
 condK (gt q51) (mvK (ct (.b false)) q4 <|
 retK) (fin) <|
 faK 2 (gt q3) q52 <|
 ld1K (gt q52) q53 <|
 lensK (gt q53) q54 <|
 mvK (ct (.i .i64 0)) q55 <|
 blockK 0 (loopK (arK lssV (gt q55) (gt q54) q56 <|
 condK (gt q56) (fin) (exitK 0) <|
 blockK 1 (mvK (gt q55) q57 <|
 iaK 4 (gt q53) (gt q55) q58 <|
 ldK 4 (gt q58) q59 <|
 alK [(.i .u8 0), (.s []), (.i .i64 0), .sn] 4 q7 <|
 mvK (gt q57) q6 <|
 stK 4 (gt q7) (gt q59) <|
 mvK (gt q0) q61 <|
 ldK 4 (gt q7) q62 <|
 callK q260 [(gt q61), (gt q62)] q63 <|
 mvK (gt q63) q60 <|
 extK 0 (gt q60) q64 <|
 extK 1 (gt q60) q65 <|
 alK [(.i .i64 0), (.i .i64 0), (.i .i64 0), (.i .i64 0), (.b false)] 5 q8 <|
 stK 5 (gt q8) (gt q64) <|
 mvK (gt q65) q9 <|
 mvK (gt q9) q66 <|
 notK (gt q66) q67 <|
 mvK (gt q67) q68 <|
 gK q68 false q69 (faK 4 (gt q8) q69) <|
 gK q68 false q70 (ld1K (gt q69) q70) <|
 gK q68 false q71 (faK 1 (gt q7) q71) <|
 gK q68 false q72 (ld1K (gt q71) q72) <|
 gK q68 false q73 (eqsS true (gt q72) (ct (.s [])) q73) <|
 gK q68 false q74 (rK (evEqb true) [(gt q70), (gt q73)] q74) <|
 pickK (gt q68) (ct (.b true)) (gt q74) q75 <|
 mvK (gt q75) q76 <|
 gK q76 false q77 (faK 2 (gt q7) q77) <|
 gK q76 false q78 (ld1K (gt q77) q78) <|
 gK q76 false q79 (faK 2 (gt q8) q79) <|
 gK q76 false q80 (ld1K (gt q79) q80) <|
 gK q76 false q81 (arK lssV (gt q78) (gt q80) q81) <|
 pickK (gt q76) (ct (.b true)) (gt q81) q82 <|
 mvK (gt q82) q83 <|
 gK q83 false q84 (faK 2 (gt q7) q84) <|
 gK q83 false q85 (ld1K (gt q84) q85) <|
 gK q83 false q86 (faK 3 (gt q8) q86) <|
 gK q83 false q87 (ld1K (gt q86) q87) <|
 gK q83 false q88 (arK gtrV (gt q85) (gt q87) q88) <|
 pickK (gt q83) (ct (.b true)) (gt q88) q89 <|
 mvK (gt q89) q90 <|
 gK q90 false q91 (faK 3 (gt q7) q91) <|
 gK q90 false q92 (ld1K (gt q91) q92) <|
 gK q90 false q93 (lensK (gt q92) q93) <|
 gK q90 false q94 (faK 0 (gt q8) q94) <|
 gK q90 false q95 (ld1K (gt q94) q95) <|
 gK q90 false q96 (arK neqV (gt q93) (gt q95) q96) <|
 pickK (gt q90) (ct (.b true)) (gt q96) q97 <|
 mvK (gt q97) q98 <|
 gK q98 false q99 (mvK (gt q0) q99) <|
 gK q98 false q100 (ldK 5 (gt q3) q100) <|
 gK q98 false q101 (faK 3 (gt q7) q101) <|
 gK q98 false q102 (ld1K (gt q101) q102) <|
 gK q98 false q103 (mvK (gt q6) q103) <|
 gK q98 false q104 (callK q259 [(gt q99), (gt q100), (gt q102), (gt q103)] q104) <|
 gK q98 false q105 (notK (gt q104) q105) <|
 pickK (gt q98) (ct (.b true)) (gt q105) q106 <|
 condK (gt q106) (mvK (ct (.b false)) q4 <|
 retK) (fin) <|
 fin) <|
 arK addV (gt q55) (ct (.i .i64 1)) q107 <|
 mvK (gt q107) q55 <|
 fin) <|
 fin) <|
 mvK (ct (.b true)) q4 <|
 retK⟩
theorem ft233 : (compFn P9 Z9 233).map fastFn = some fn233 := by kernel_rfl
noncomputable def fn234 : FFn := ⟨[.t q2],
 boxK (gt q0) q1 <|
 mvK (ct (.b false)) q2 <|
 faK 3 (gt q1) q3 <|
 ld1K (gt q3) q4 <|
 lensK (gt q4) q5 <|
 arK gtrV (gt q5) (ct (.i .i64 0)) q6 <|
 mvK (gt q6) q2 <|
 retK⟩
theorem ft234 : (compFn P9 Z9 234).map fastFn = some fn234 := by kernel_rfl
noncomputable def fn237 : FFn := ⟨[],
 mvK (ct (.b true)) q10 <|
 mvK (ct (.b true)) q11 <|
 blockK 0 (loopK (blockK 1 (mvK (gt q2) q21 <|
 mvK (gt q1) q22 <|
 arK subV (gt q21) (gt q22) q23 <|
 mvK (gt q23) q12 <|
 mvK (gt q12) q24 <|
 arK leqV (gt q24) (ct (.i .i64 12)) q25 <|
 condK (gt q25) (mvK (gt q0) q26 <|
 mvK (gt q1) q27 <|
 mvK (gt q2) q28 <|
 mvK (gt q4) q29 <|
 callK q262 [(gt q26), (gt q27), (gt q28), (gt q29)] q30 <|
 retK) (fin) <|
 mvK (gt q3) q31 <|
 arK eqlV (gt q31) (ct (.i .i64 0)) q32 <|
 condK (gt q32) (mvK (gt q0) q33 <|
 mvK (gt q1) q34 <|
 mvK (gt q2) q35 <|
 mvK (gt q4) q36 <|
 callK q263 [(gt q33), (gt q34), (gt q35), (gt q36)] q37 <|
 retK) (fin) <|
 mvK (gt q10) q38 <|
 notK (gt q38) q39 <|
 condK (gt q39) (mvK (gt q0) q40 <|
 mvK (gt q1) q41 <|
 mvK (gt q2) q42 <|
 mvK (gt q4) q43 <|
 callK q264 [(gt q40), (gt q41), (gt q42), (gt q43)] q44 <|
 mvK (gt q3) q45 <|
 arK subV (gt q45) (ct (.i .i64 1)) q46 <|
 mvK (gt q46) q3 <|
 fin) (fin) <|
 mvK (gt q0) q48 <|
 mvK (gt q1) q49 <|
 mvK (gt q2) q50 <|
 mvK (gt q4) q51 <|
 callK q265 [(gt q48), (gt q49), (gt q50), (gt q51)] q52 <|
 mvK (gt q52) q47 <|
 extK 0 (gt q47) q53 <|
 extK 1 (gt q47) q54 <|
 mvK (gt q53) q13 <|
 mvK (gt q54) q14 <|
 mvK (gt q14) q55 <|
 arK eqlV (gt q55) (ct (.i .i64 2)) q56 <|
 condK (gt q56) (mvK (gt q0) q57 <|
 mvK (gt q1) q58 <|
 mvK (gt q2) q59 <|
 mvK (gt q4) q60 <|
 callK q266 [(gt q57), (gt q58), (gt q59), (gt q60)] q61 <|
 mvK (gt q2) q62 <|
 arK subV (gt q62) (ct (.i .i64 1)) q63 <|
 mvK (gt q13) q64 <|
 mvK (gt q1) q65 <|
 arK subV (gt q64) (gt q65) q66 <|
 arK subV (gt q63) (gt q66) q67 <|
 mvK (gt q67) q13 <|
 mvK (ct (.i .i64 1)) q14 <|
 fin) (fin) <|
 mvK (gt q10) q68 <|
 mvK (gt q68) q69 <|
 gK q69 true q70 (mvK (gt q11) q70) <|
 pickK (gt q69) (gt q70) (ct (.b false)) q71 <|
 mvK (gt q71) q72 <|
 gK q72 true q73 (mvK (gt q14) q73) <|
 gK q72 true q74 (arK eqlV (gt q73) (ct (.i .i64 1)) q74) <|
 pickK (gt q72) (gt q74) (ct (.b false)) q75 <|
 condK (gt q75) (mvK (gt q0) q76 <|
 mvK (gt q1) q77 <|
 mvK (gt q2) q78 <|
 mvK (gt q4) q79 <|
 callK q267 [(gt q76), (gt q77), (gt q78), (gt q79)] q80 <|
 condK (gt q80) (retK) (fin) <|
 fin) (fin) <|
 mvK (gt q1) q81 <|
 arK gtrV (gt q81) (ct (.i .i64 0)) q82 <|
 mvK (gt q82) q83 <|
 gK q83 true q84 (mvK (gt q4) q84) <|
 gK q83 true q85 (mvK (gt q0) q85) <|
 gK q83 true q86 (mvK (gt q1) q86) <|
 gK q83 true q87 (arK subV (gt q86) (ct (.i .i64 1)) q87) <|
 gK q83 true q88 (iaK 2 (gt q85) (gt q87) q88) <|
 gK q83 true q89 (rdD 8 247 (.ld 2) [(gt q88)] q89) <|
 gK q83 true q90 (mvK (gt q0) q90) <|
 gK q83 true q91 (mvK (gt q13) q91) <|
 gK q83 true q92 (iaK 2 (gt q90) (gt q91) q92) <|
 gK q83 true q93 (rdD 12 3591 (.ld 2) [(gt q92)] q93) <|
 gK q83 true q94 (efD 13 ⟨(some q94), .call (.t q84) [.t q89, .t q93], (some (q83, true)), 8191, false⟩) <|
 gK q83 true q95 (arK lssV (gt q94) (ct (.i .i64 0)) q95) <|
 gK q83 true q96 (notK (gt q95) q96) <|
 pickK (gt q83) (gt q96) (ct (.b false)) q97 <|
 endD <|
 condK (gt q97) (mvK (gt q0) q98 <|
 mvK (gt q1) q99 <|
 mvK (gt q2) q100 <|
 mvK (gt q13) q101 <|
 mvK (gt q4) q102 <|
 callK q268 [(gt q98), (gt q99), (gt q100), (gt q101), (gt q102)] q103 <|
 mvK (gt q103) q15 <|
 mvK (gt q15) q104 <|
 mvK (gt q104) q1 <|
 exitK 1) (fin) <|
 mvK (gt q0) q106 <|
 mvK (gt q1) q107 <|
 mvK (gt q2) q108 <|
 mvK (gt q13) q109 <|
 mvK (gt q4) q110 <|
 callK q269 [(gt q106), (gt q107), (gt q108), (gt q109), (gt q110)] q111 <|
 mvK (gt q111) q105 <|
 extK 0 (gt q105) q112 <|
 extK 1 (gt q105) q113 <|
 mvK (gt q112) q16 <|
 mvK (gt q113) q17 <|
 mvK (gt q17) q114 <|
 mvK (gt q114) q11 <|
 mvK (gt q16) q115 <|
 mvK (gt q1) q116 <|
 arK subV (gt q115) (gt q116) q117 <|
 mvK (gt q2) q118 <|
 mvK (gt q16) q119 <|
 arK subV (gt q118) (gt q119) q120 <|
 mvK (gt q117) q18 <|
 mvK (gt q120) q19 <|
 mvK (gt q12) q121 <|
 rK (evBin .quo) [(gt q121), (ct (.i .i64 8))] q122 <|
 mvK (gt q122) q20 <|
 mvK (gt q18) q123 <|
 mvK (gt q19) q124 <|
 arK lssV (gt q123) (gt q124) q125 <|
 condK (gt q125) (mvK (gt q18) q126 <|
 mvK (gt q20) q127 <|
 arK geqV (gt q126) (gt q127) q128 <|
 mvK (gt q128) q10 <|
 mvK (gt q0) q129 <|
 mvK (gt q1) q130 <|
 mvK (gt q16) q131 <|
 mvK (gt q3) q132 <|
 mvK (gt q4) q133 <|
 callK q237 [(gt q129), (gt q130), (gt q131), (gt q132), (gt q133)] q134 <|
 mvK (gt q16) q135 <|
 arK addV (gt q135) (ct (.i .i64 1)) q136 <|
 mvK (gt q136) q1 <|
 fin) (mvK (gt q19) q137 <|
 mvK (gt q20) q138 <|
 arK geqV (gt q137) (gt q138) q139 <|
 mvK (gt q139) q10 <|
 mvK (gt q0) q140 <|
 mvK (gt q16) q141 <|
 arK addV (gt q141) (ct (.i .i64 1)) q142 <|
 mvK (gt q2) q143 <|
 mvK (gt q3) q144 <|
 mvK (gt q4) q145 <|
 callK q237 [(gt q140), (gt q142), (gt q143), (gt q144), (gt q145)] q146 <|
 mvK (gt q16) q147 <|
 mvK (gt q147) q2 <|
 fin) <|
 fin) <|
 fin) <|
 fin) <|
 fin⟩
theorem ft237 : (compFn P9 Z9 237).map fastFn = some fn237 := by kernel_rfl
noncomputable def fn238 : FFn := ⟨[.t q2],
 mvK (ct (.i .i64 0)) q2 <|
 condK (ct (.b false)) (mvK (gt q0) q3 <|
 cviK .u32 (gt q3) q4 <|
 callK q270 [(gt q4)] q5 <|
 mvK (gt q5) q2 <|
 retK) (fin) <|
 mvK (gt q0) q6 <|
 callK q271 [(gt q6)] q7 <|
 mvK (gt q7) q2 <|
 retK⟩
theorem ft238 : (compFn P9 Z9 238).map fastFn = some fn238 := by kernel_rfl
noncomputable def fn239 : FFn := ⟨[.t q4],
 mvK (ct (.i .i64 0)) q4 <|
 mvK (gt q0) q6 <|
 lensK (gt q6) q7 <|
 mvK (ct (.i .i64 0)) q8 <|
 blockK 0 (loopK (arK lssV (gt q8) (gt q7) q9 <|
 condK (gt q9) (fin) (exitK 0) <|
 blockK 1 (mvK (gt q8) q10 <|
 mvK (gt q10) q5 <|
 mvK (gt q1) q11 <|
 mvK (gt q0) q12 <|
 mvK (gt q5) q13 <|
 iaK 1 (gt q12) (gt q13) q14 <|
 ld1K (gt q14) q15 <|
 dynK (gt q11) [(gt q15)] q16 <|
 condK (gt q16) (mvK (gt q5) q17 <|
 mvK (gt q17) q4 <|
 retK) (fin) <|
 fin) <|
 arK addV (gt q8) (ct (.i .i64 1)) q18 <|
 mvK (gt q18) q8 <|
 fin) <|
 fin) <|
 mvK (ct (.i .i64 (-1))) q4 <|
 retK⟩
theorem ft239 : (compFn P9 Z9 239).map fastFn = some fn239 := by kernel_rfl
noncomputable def fn240 : FFn := ⟨[.t q4],
 mvK (ct .sn) q4 <|
 mvK (gt q1) q5 <|
 arK lssV (gt q5) (ct (.i .i64 0)) q6 <|
 condK (gt q6) (anyK ⟨(some q7), .rd (.mki 9) [.c (.s [99, 97, 110, 110, 111, 116, 32, 98, 101, 32, 110, 101, 103, 97, 116, 105, 118, 101])], none, 0, false⟩ <|
 anyK ⟨none, .bad, none, 0, false⟩ <|
 fin) (fin) <|
 mvK (gt q1) q8 <|
 mvK (gt q0) q9 <|
 anyK ⟨(some q10), .rd .capn [.t q9], none, 0, false⟩ <|
 mvK (gt q0) q11 <|
 lensK (gt q11) q12 <|
 arK subV (gt q10) (gt q12) q13 <|
 arK subV (gt q8) (gt q13) q14 <|
 mvK (gt q14) q1 <|
 mvK (gt q1) q15 <|
 arK gtrV (gt q15) (ct (.i .i64 0)) q16 <|
 condK (gt q16) (mvK (gt q0) q17 <|
 mvK (gt q0) q18 <|
 anyK ⟨(some q19), .rd .capn [.t q18], none, 0, false⟩ <|
 rK (evSlc 1 false true) [(gt q17), (gt q19)] q20 <|
 mvK (gt q1) q21 <|
 anyK ⟨(some q22), .ef (.appz [(.i .i64 0)] 1 8) [.t q20, .t q21], none, 0, false⟩ <|
 mvK (gt q0) q23 <|
 lensK (gt q23) q24 <|
 rK (evSlc 1 false true) [(gt q22), (gt q24)] q25 <|
 mvK (gt q25) q0 <|
 fin) (fin) <|
 mvK (gt q0) q26 <|
 mvK (gt q26) q4 <|
 retK⟩
theorem ft240 : (compFn P9 Z9 240).map fastFn = some fn240 := by kernel_rfl
noncomputable def fn241 : FFn := ⟨[.t q4],
 boxK (gt q1) q3 <|
 mvK (ct (.i .i64 0)) q4 <|
 faK 0 (gt q3) q9 <|
 ld1K (gt q9) q10 <|
 blockK 0 (arK eqlV (gt q10) (ct (.i .u8 8)) q12 <|
 mvK (gt q12) q11 <|
 condK (gt q11) (fin) (arK eqlV (gt q10) (ct (.i .u8 9)) q13 <|
 mvK (gt q13) q11 <|
 fin) <|
 condK (gt q11) (mvK (gt q0) q15 <|
 nilckK (gt q15) q16 <|
 faK 1 (gt q16) q17 <|
 ld1D 3 7 (gt q17) q18 <|
 faK 1 (gt q3) q19 <|
 ld1D 5 16 (gt q19) q20 <|
 rdD 6 63 (.look false [2] (.i .i64 0) true) [(gt q18), (gt q20)] q21 <|
 mvK (gt q21) q14 <|
 extK 0 (gt q14) q22 <|
 extK 1 (gt q14) q23 <|
 mvK (gt q22) q5 <|
 mvK (gt q23) q6 <|
 endD <|
 mvK (gt q6) q24 <|
 notK (gt q24) q25 <|
 condK (gt q25) (mvK (ct (.i .i64 0)) q4 <|
 retK) (fin) <|
 mvK (gt q0) q26 <|
 nilckK (gt q26) q27 <|
 faK 0 (gt q27) q28 <|
 ld1K (gt q28) q29 <|
 mvK (gt q5) q30 <|
 iaK 5 (gt q29) (gt q30) q31 <|
 faK 4 (gt q31) q32 <|
 ld1K (gt q32) q33 <|
 lensK (gt q33) q34 <|
 mvK (gt q34) q4 <|
 retK) (arK eqlV (gt q10) (ct (.i .u8 4)) q36 <|
 mvK (gt q36) q35 <|
 condK (gt q35) (mvK (ct (.i .i64 1)) q4 <|
 retK) (fin) <|
 fin) <|
 fin) <|
 mvK (gt q0) q38 <|
 ldK 4 (gt q3) q39 <|
 callK q260 [(gt q38), (gt q39)] q40 <|
 mvK (gt q40) q37 <|
 extK 0 (gt q37) q41 <|
 extK 1 (gt q37) q42 <|
 alK [(.i .i64 0), (.i .i64 0), (.i .i64 0), (.i .i64 0), (.b false)] 5 q7 <|
 stK 5 (gt q7) (gt q41) <|
 mvK (gt q42) q8 <|
 mvK (gt q8) q43 <|
 notK (gt q43) q44 <|
 condK (gt q44) (mvK (ct (.i .i64 0)) q4 <|
 retK) (fin) <|
 faK 1 (gt q7) q45 <|
 ld1K (gt q45) q46 <|
 mvK (gt q46) q4 <|
 retK⟩
theorem ft241 : (compFn P9 Z9 241).map fastFn = some fn241 := by kernel_rfl
noncomputable def fn242 : FFn := ⟨[.t q4],
 mvK (ct (.i .i64 0)) q4 <|
 mvK (gt q0) q6 <|
 lensK (gt q6) q7 <|
 mvK (ct (.i .i64 0)) q8 <|
 blockK 0 (loopK (arK lssV (gt q8) (gt q7) q9 <|
 condK (gt q9) (fin) (exitK 0) <|
 blockK 1 (mvK (gt q8) q10 <|
 mvK (gt q10) q5 <|
 mvK (gt q1) q11 <|
 mvK (gt q0) q12 <|
 mvK (gt q5) q13 <|
 iaK 2 (gt q12) (gt q13) q14 <|
 ldK 2 (gt q14) q15 <|
 dynK (gt q11) [(gt q15)] q16 <|
 condK (gt q16) (mvK (gt q5) q17 <|
 mvK (gt q17) q4 <|
 retK) (fin) <|
 fin) <|
 arK addV (gt q8) (ct (.i .i64 1)) q18 <|
 mvK (gt q18) q8 <|
 fin) <|
 fin) <|
 mvK (ct (.i .i64 (-1))) q4 <|
 retK⟩
theorem ft242 : (compFn P9 Z9 242).map fastFn = some fn242 := by kernel_rfl
noncomputable def fn243 : FFn := ⟨[.cell q4 2, .t q5],
 boxK (gt q0) q2 <|
 boxK (gt q1) q3 <|
 alK [(.i .u8 0), (.i .i64 0)] 2 q4 <|
 mvK (ct (.i .i64 0)) q5 <|
 faK 1 (gt q3) q7 <|
 ldK 2 (gt q7) q8 <|
 aK (alRows 1 2) [(gt q8)] q9 <|
 mvK (gt q9) q6 <|
 faK 0 (gt q3) q10 <|
 ld1K (gt q10) q11 <|
 blockK 0 (arK eqlV (gt q11) (ct (.i .u8 1)) q14 <|
 mvK (gt q14) q13 <|
 condK (gt q13) (fin) (arK eqlV (gt q11) (ct (.i .u8 4)) q15 <|
 mvK (gt q15) q13 <|
 fin) <|
 condK (gt q13) (fin) (arK eqlV (gt q11) (ct (.i .u8 3)) q17 <|
 mvK (gt q17) q16 <|
 condK (gt q16) (mvK (gt q6) q18 <|
 faK 3 (gt q3) q19 <|
 ldK 2 (gt q19) q20 <|
 aK (alRows 1 2) [(gt q20)] q21 <|
 eK (efApp 2 16) [(gt q18), (gt q21)] q22 <|
 mvK (gt q22) q6 <|
 fin) (arK eqlV (gt q11) (ct (.i .u8 2)) q24 <|
 mvK (gt q24) q23 <|
 condK (gt q23) (mvK (gt q6) q25 <|
 faK 3 (gt q3) q26 <|
 ldK 2 (gt q26) q27 <|
 faK 5 (gt q3) q28 <|
 ldK 2 (gt q28) q29 <|
 aK (alRows 2 2) [(gt q27), (gt q29)] q30 <|
 eK (efApp 2 16) [(gt q25), (gt q30)] q31 <|
 mvK (gt q31) q6 <|
 fin) (rK (evBuild [(.i .u8 0), (.i .i64 0)] []) [] q12 <|
 stK 2 (gt q4) (gt q12) <|
 mvK (ct (.i .i64 2)) q5 <|
 retK) <|
 fin) <|
 fin) <|
 fin) <|
 mvK (gt q6) q32 <|
 anyK ⟨(some q33), .rd (.mkf q272) [.t q2], none, 0, false⟩ <|
 callK q159 [(gt q32), (gt q33)] q34 <|
 condK (gt q34) (rK (evBuild [(.i .u8 0), (.i .i64 0)] []) [] q35 <|
 stK 2 (gt q4) (gt q35) <|
 mvK (ct (.i .i64 2)) q5 <|
 retK) (fin) <|
 faK 0 (gt q3) q36 <|
 ld1K (gt q36) q37 <|
 blockK 1 (arK eqlV (gt q37) (ct (.i .u8 1)) q39 <|
 mvK (gt q39) q38 <|
 condK (gt q38) (ld1K (gt q2) q40 <|
 faK 1 (gt q3) q41 <|
 ldK 2 (gt q41) q42 <|
 callK q274 [(gt q40), (gt q42)] q43 <|
 extK 0 (gt q43) q44 <|
 extK 1 (gt q43) q45 <|
 stK 2 (gt q4) (gt q44) <|
 mvK (gt q45) q5 <|
 retK) (arK eqlV (gt q37) (ct (.i .u8 2)) q47 <|
 mvK (gt q47) q46 <|
 condK (gt q46) (ld1K (gt q2) q48 <|
 faK 1 (gt q3) q49 <|
 ldK 2 (gt q49) q50 <|
 faK 3 (gt q3) q51 <|
 ldK 2 (gt q51) q52 <|
 faK 5 (gt q3) q53 <|
 ldK 2 (gt q53) q54 <|
 callK q275 [(gt q48), (gt q50), (gt q52), (gt q54)] q55 <|
 extK 0 (gt q55) q56 <|
 extK 1 (gt q55) q57 <|
 stK 2 (gt q4) (gt q56) <|
 mvK (gt q57) q5 <|
 retK) (arK eqlV (gt q37) (ct (.i .u8 3)) q59 <|
 mvK (gt q59) q58 <|
 condK (gt q58) (ld1K (gt q2) q60 <|
 faK 1 (gt q3) q61 <|
 ldK 2 (gt q61) q62 <|
 faK 3 (gt q3) q63 <|
 ldK 2 (gt q63) q64 <|
 faK 7 (gt q3) q65 <|
 ld1K (gt q65) q66 <|
 callK q276 [(gt q60), (gt q62), (gt q64), (gt q66)] q67 <|
 extK 0 (gt q67) q68 <|
 extK 1 (gt q67) q69 <|
 stK 2 (gt q4) (gt q68) <|
 mvK (gt q69) q5 <|
 retK) (fin) <|
 fin) <|
 fin) <|
 fin) <|
 ld1K (gt q2) q70 <|
 faK 1 (gt q3) q71 <|
 ldK 2 (gt q71) q72 <|
 callK q277 [(gt q70), (gt q72)] q73 <|
 stK 2 (gt q4) (gt q73) <|
 mvK (ct (.i .i64 0)) q5 <|
 retK⟩
theorem ft243 : (compFn P9 Z9 243).map fastFn = some fn243 := by kernel_rfl
noncomputable def fn244 : FFn := ⟨[.cell q2 1],
 alK [.sn] 1 q2 <|
 mvK (gt q0) q3 <|
 nilckK (gt q3) q4 <|
 faK 0 (gt q4) q5 <|
 ld1K (gt q5) q6 <|
 rK (evBuild [.sn] [(0, 1)]) [(gt q6)] q7 <|
 stK 1 (gt q2) (gt q7) <|
 retK⟩
theorem ft244 : (compFn P9 Z9 244).map fastFn = some fn244 := by kernel_rfl
noncomputable def fn245 : FFn := ⟨[.t q0],
 mvK (ct .mn) q0 <|
 aK (alRows 1 1) [(ct (.i .u8 1))] q2 <|
 mvK (gt q2) q1 <|
 anyK ⟨(some q3), .al .mkm [], none, 0, false⟩ <|
 mvK (gt q1) q4 <|
 rK (evBuild [(.i .i64 0), .sn, .fn] [(0, 1), (1, 1), (2, 1)]) [(ct (.i .i64 2)), (gt q4), (ct (.f q278 []))] q5 <|
 anyK ⟨none, .ef (.upd false [2]) [.t q3, .c (.s [97, 100, 100]), .t q5], none, 0, false⟩ <|
 mvK (gt q1) q6 <|
 rK (evBuild [(.i .i64 0), .sn, .fn] [(0, 1), (1, 1), (2, 1)]) [(ct (.i .i64 2)), (gt q6), (ct (.f q280 []))] q7 <|
 anyK ⟨none, .ef (.upd false [2]) [.t q3, .c (.s [115, 117, 98]), .t q7], none, 0, false⟩ <|
 mvK (gt q1) q8 <|
 rK (evBuild [(.i .i64 0), .sn, .fn] [(0, 1), (1, 1), (2, 1)]) [(ct (.i .i64 2)), (gt q8), (ct (.f q281 []))] q9 <|
 anyK ⟨none, .ef (.upd false [2]) [.t q3, .c (.s [109, 117, 108]), .t q9], none, 0, false⟩ <|
 mvK (gt q1) q10 <|
 rK (evBuild [(.i .i64 0), .sn, .fn] [(0, 1), (1, 1), (2, 1)]) [(ct (.i .i64 2)), (gt q10), (ct (.f q282 []))] q11 <|
 anyK ⟨none, .ef (.upd false [2]) [.t q3, .c (.s [100, 105, 118]), .t q11], none, 0, false⟩ <|
 mvK (gt q1) q12 <|
 rK (evBuild [(.i .i64 0), .sn, .fn] [(0, 1), (1, 1), (2, 1)]) [(ct (.i .i64 2)), (gt q12), (ct (.f q285 []))] q13 <|
 anyK ⟨none, .ef (.upd false [2]) [.t q3, .c (.s [109, 111, 100]), .t q13], none, 0, false⟩ <|
 mvK (gt q1) q14 <|
 rK (evBuild [(.i .i64 0), .sn, .fn] [(0, 1), (1, 1), (2, 1)]) [(ct (.i .i64 1)), (gt q14), (ct (.f q287 []))] q15 <|
 anyK ⟨none, .ef (.upd false [2]) [.t q3, .c (.s [110, 101, 103]), .t q15], none, 0, false⟩ <|
 mvK (gt q1) q16 <|
 rK (evBuild [(.i .i64 0), .sn, .fn] [(0, 1), (1, 1), (2, 1)]) [(ct (.i .i64 2)), (gt q16), (ct (.f q288 []))] q17 <|
 anyK ⟨none, .ef (.upd false [2]) [.t q3, .c (.s [108, 116]), .t q17], none, 0, false⟩ <|
 mvK (gt q1) q18 <|
 rK (evBuild [(.i .i64 0), .sn, .fn] [(0, 1), (1, 1), (2, 1)]) [(ct (.i .i64 2)), (gt q18), (ct (.f q290 []))] q19 <|
 anyK ⟨none, .ef (.upd false [2]) [.t q3, .c (.s [108, 101]), .t q19], none, 0, false⟩ <|
 aK (alRows 2 1) [(ct (.i .u8 1)), (ct (.i .u8 2))] q20 <|
 rK (evBuild [(.i .i64 0), .sn, .fn] [(0, 1), (1, 1), (2, 1)]) [(ct (.i .i64 2)), (gt q20), (ct (.f q291 []))] q21 <|
 anyK ⟨none, .ef (.upd false [2]) [.t q3, .c (.s [101, 113]), .t q21], none, 0, false⟩ <|
 aK (alRows 1 1) [(ct (.i .u8 2))] q22 <|
 rK (evBuild [(.i .i64 0), .sn, .fn] [(0, 1), (1, 1), (2, 1)]) [(ct (.i .i64 1)), (gt q22), (ct (.f q292 []))] q23 <|
 anyK ⟨none, .ef (.upd false [2]) [.t q3, .c (.s [110, 111, 116]), .t q23], none, 0, false⟩ <|
 mvK (gt q3) q24 <|
 mvK (gt q24) q0 <|
 retK⟩
theorem ft245 : (compFn P9 Z9 245).map fastFn = some fn245 := by kernel_rfl
noncomputable def fn246 : FFn := ⟨[.t q2],
 boxK (gt q0) q1 <|
 mvK (ct (.b false)) q2 <|
 faK 0 (gt q1) q3 <|
 ld1K (gt q3) q4 <|
 arK neqV (gt q4) (ct (.i .u8 4)) q5 <|
 mvK (gt q5) q6 <|
 gK q6 true q7 (ldK 2 (gt q1) q7) <|
 gK q6 true q8 (callK q161 [(gt q7), (ct (.i .i64 0))] q8) <|
 gK q6 true q9 (notK (gt q8) q9) <|
 pickK (gt q6) (gt q9) (ct (.b false)) q10 <|
 mvK (gt q10) q11 <|
 gK q11 false q12 (faK 1 (gt q1) q12) <|
 gK q11 false q13 (ld1K (gt q12) q13) <|
 gK q11 false q14 (arK lssV (gt q13) (ct (.i .i64 0)) q14) <|
 gK q11 false q15 (mvK (gt q14) q15) <|
 gK q15 true q16 (faK 0 (gt q1) q16) <|
 gK q15 true q17 (ld1K (gt q16) q17) <|
 gK q15 true q18 (arK eqlV (gt q17) (ct (.i .u8 4)) q18) <|
 gK q11 false q19 (pickK (gt q15) (gt q18) (ct (.b false)) q19) <|
 pickK (gt q11) (ct (.b true)) (gt q19) q20 <|
 mvK (gt q20) q2 <|
 retK⟩
theorem ft246 : (compFn P9 Z9 246).map fastFn = some fn246 := by kernel_rfl
noncomputable def fn247 : FFn := ⟨[.cell q4 2],
 boxK (gt q0) q2 <|
 alK [(.i .u8 0), (.i .i64 0)] 2 q4 <|
 mvK (gt q1) q8 <|
 callK q159 [(gt q8), (ct (.f q230 []))] q9 <|
 condK (gt q9) (callK q181 [] q10 <|
 stK 2 (gt q4) (gt q10) <|
 retK) (fin) <|
 mvK (gt q1) q11 <|
 callK q223 [(gt q11), (ct (.f q293 []))] q12 <|
 mvK (gt q12) q5 <|
 mvK (gt q5) q13 <|
 arK geqV (gt q13) (ct (.i .i64 0)) q14 <|
 condK (gt q14) (mvK (gt q1) q15 <|
 mvK (gt q5) q16 <|
 iaK 2 (gt q15) (gt q16) q17 <|
 ldK 2 (gt q17) q18 <|
 stK 2 (gt q4) (gt q18) <|
 retK) (fin) <|
 mvK (gt q1) q19 <|
 iaK 2 (gt q19) (ct (.i .i64 0)) q20 <|
 rdD 2 3 (.ld 2) [(gt q20)] q21 <|
 mvK (gt q1) q22 <|
 mvK (gt q1) q23 <|
 lensK (gt q23) q24 <|
 arK subV (gt q24) (ct (.i .i64 1)) q25 <|
 iaK 2 (gt q22) (gt q25) q26 <|
 rdD 8 248 (.ld 2) [(gt q26)] q27 <|
 alK [(.i .u8 0), (.i .i64 0)] 2 q6 <|
 alK [(.i .u8 0), (.i .i64 0)] 2 q7 <|
 efD 11 ⟨none, .ef (.st 2) [.t q6, .t q21], none, 1543, false⟩ <|
 efD 12 ⟨none, .ef (.st 2) [.t q7, .t q27], none, 4095, false⟩ <|
 endD <|
 faK 0 (gt q6) q28 <|
 ld1K (gt q28) q29 <|
 faK 0 (gt q7) q30 <|
 ld1K (gt q30) q31 <|
 arK neqV (gt q29) (gt q31) q32 <|
 mvK (gt q32) q33 <|
 gK q33 false q34 (faK 1 (gt q2) q34) <|
 gK q33 false q35 (ld1K (gt q34) q35) <|
 gK q33 false q36 (faK 0 (gt q6) q36) <|
 gK q33 false q37 (ld1K (gt q36) q37) <|
 gK q33 false q38 (callK q294 [(gt q35), (gt q37)] q38) <|
 gK q33 false q39 (notK (gt q38) q39) <|
 pickK (gt q33) (ct (.b true)) (gt q39) q40 <|
 condK (gt q40) (callK q295 [(ct (.i .i64 5))] q41 <|
 stK 2 (gt q4) (gt q41) <|
 retK) (fin) <|
 faK 2 (gt q2) q42 <|
 ld1K (gt q42) q43 <|
 faK 1 (gt q6) q44 <|
 ld1K (gt q44) q45 <|
 faK 1 (gt q7) q46 <|
 ld1K (gt q46) q47 <|
 dynK (gt q43) [(gt q45), (gt q47)] q48 <|
 stK 2 (gt q4) (gt q48) <|
 retK⟩
theorem ft247 : (compFn P9 Z9 247).map fastFn = some fn247 := by kernel_rfl
noncomputable def fn248 : FFn := ⟨[.t q6],
 boxK (gt q2) q5 <|
 mvK (ct (.b false)) q6 <|
 ldK 2 (gt q5) q7 <|
 callK q174 [(gt q7)] q8 <|
 notK (gt q8) q9 <|
 mvK (gt q9) q10 <|
 gK q10 false q11 (mvK (gt q0) q11) <|
 gK q10 false q12 (nilckK (gt q11) q12) <|
 gK q10 false q13 (faK 0 (gt q12) q13) <|
 gK q10 false q14 (faK 4 (gt q13) q14) <|
 gK q10 false q15 (ld1K (gt q14) q15) <|
 gK q10 false q16 (mvK (gt q1) q16) <|
 gK q10 false q17 (iaK 2 (gt q15) (gt q16) q17) <|
 gK q10 false q18 (ldK 2 (gt q17) q18) <|
 gK q10 false q19 (callK q174 [(gt q18)] q19) <|
 pickK (gt q10) (ct (.b true)) (gt q19) q20 <|
 condK (gt q20) (mvK (ct (.b false)) q6 <|
 retK) (fin) <|
 mvK (gt q0) q21 <|
 nilckK (gt q21) q22 <|
 faK 0 (gt q22) q23 <|
 faK 4 (gt q23) q24 <|
 ld1D 4 15 (gt q24) q25 <|
 mvK (gt q1) q26 <|
 rdD 6 0 (.ld 2) [(gt q5)] q27 <|
 iaK 2 (gt q25) (gt q26) q28 <|
 efD 8 ⟨none, .ef (.st 2) [.t q28, .t q27], none, 255, false⟩ <|
 endD <|
 mvK (ct (.b true)) q6 <|
 retK⟩
theorem ft248 : (compFn P9 Z9 248).map fastFn = some fn248 := by kernel_rfl
noncomputable def fn249 : FFn := ⟨[.t q10, .t q11],
 boxK (gt q3) q8 <|
 boxK (gt q4) q9 <|
 mvK (ct (.b false)) q10 <|
 mvK (ct (.i .i64 0)) q11 <|
 mvK (gt q0) q14 <|
 nilckK (gt q14) q15 <|
 faK 2 (gt q15) q16 <|
 ld1D 3 7 (gt q16) q17 <|
 mvK (gt q1) q18 <|
 nilckK (gt q18) q19 <|
 faK 0 (gt q19) q20 <|
 faK 1 (gt q20) q21 <|
 ld1D 8 240 (gt q21) q22 <|
 iaK 1 (gt q17) (gt q22) q23 <|
 ld1D 10 1023 (gt q23) q24 <|
 mvK (gt q24) q12 <|
 endD <|
 mvK (gt q12) q25 <|
 nilckK (gt q25) q26 <|
 faK 8 (gt q26) q27 <|
 ld1D 3 7 (gt q27) q28 <|
 mvK (gt q1) q29 <|
 nilckK (gt q29) q30 <|
 faK 0 (gt q30) q31 <|
 faK 2 (gt q31) q32 <|
 ld1D 8 240 (gt q32) q33 <|
 iaK 1 (gt q28) (gt q33) q34 <|
 ld1D 10 1023 (gt q34) q35 <|
 mvK (gt q2) q36 <|
 iaK 3 (gt q35) (gt q36) q37 <|
 mvK (gt q37) q13 <|
 endD <|
 blockK 0 (mvK (gt q13) q42 <|
 nilckK (gt q42) q43 <|
 rdD 2 3 (.ld 3) [(gt q43)] q44 <|
 rdD 3 0 (.ld 3) [(gt q9)] q45 <|
 rK (evEqa false [0, 1, 1]) [(gt q44), (gt q45)] q46 <|
 mvK (gt q46) q41 <|
 endD <|
 condK (gt q41) (mvK (ct (.b false)) q10 <|
 mvK (ct (.i .i64 0)) q11 <|
 retK) (mvK (gt q13) q48 <|
 nilckK (gt q48) q49 <|
 faK 2 (gt q49) q50 <|
 ld1K (gt q50) q51 <|
 mvK (gt q51) q47 <|
 condK (gt q47) (mvK (ct (.b false)) q10 <|
 mvK (ct (.i .i64 6)) q11 <|
 retK) (mvK (gt q13) q38 <|
 ldK 3 (gt q9) q39 <|
 nilckK (gt q38) q40 <|
 stK 3 (gt q40) (gt q39) <|
 fin) <|
 fin) <|
 fin) <|
 mvK (gt q12) q52 <|
 nilckK (gt q52) q53 <|
 faK 0 (gt q53) q54 <|
 faK 5 (gt q54) q55 <|
 ld1D 4 15 (gt q55) q56 <|
 mvK (gt q1) q57 <|
 nilckK (gt q57) q58 <|
 faK 0 (gt q58) q59 <|
 faK 2 (gt q59) q60 <|
 ld1D 9 480 (gt q60) q61 <|
 iaK 1 (gt q56) (gt q61) q62 <|
 ld1D 11 2047 (gt q62) q63 <|
 mvK (gt q2) q64 <|
 rdD 13 0 (.ld 2) [(gt q8)] q65 <|
 iaK 2 (gt q63) (gt q64) q66 <|
 efD 15 ⟨none, .ef (.st 2) [.t q66, .t q65], none, 32767, false⟩ <|
 endD <|
 mvK (ct (.b true)) q10 <|
 mvK (ct (.i .i64 0)) q11 <|
 retK⟩
theorem ft249 : (compFn P9 Z9 249).map fastFn = some fn249 := by kernel_rfl
noncomputable def fn250 : FFn := ⟨[.t q6, .t q7],
 boxK (gt q2) q5 <|
 mvK (ct (.b false)) q6 <|
 mvK (ct (.i .i64 0)) q7 <|
 mvK (gt q0) q11 <|
 nilckK (gt q11) q12 <|
 faK 2 (gt q12) q13 <|
 ld1D 3 7 (gt q13) q14 <|
 mvK (gt q1) q15 <|
 nilckK (gt q15) q16 <|
 faK 0 (gt q16) q17 <|
 faK 1 (gt q17) q18 <|
 ld1D 8 240 (gt q18) q19 <|
 iaK 1 (gt q14) (gt q19) q20 <|
 ld1D 10 1023 (gt q20) q21 <|
 nilckK (gt q21) q22 <|
 faK 0 (gt q22) q23 <|
 faK 5 (gt q23) q24 <|
 ld1D 14 16383 (gt q24) q25 <|
 mvK (gt q1) q26 <|
 nilckK (gt q26) q27 <|
 faK 0 (gt q27) q28 <|
 faK 2 (gt q28) q29 <|
 ld1D 19 491520 (gt q29) q30 <|
 iaK 1 (gt q25) (gt q30) q31 <|
 ld1D 21 2097151 (gt q31) q32 <|
 lensK (gt q32) q33 <|
 mvK (ct (.i .i64 0)) q34 <|
 endD <|
 blockK 0 (loopK (arK lssV (gt q34) (gt q33) q35 <|
 condK (gt q35) (fin) (exitK 0) <|
 blockK 1 (mvK (gt q34) q36 <|
 mvK (gt q36) q8 <|
 mvK (gt q0) q38 <|
 mvK (gt q1) q39 <|
 mvK (gt q8) q40 <|
 rdD 3 0 (.ld 2) [(gt q5)] q41 <|
 mvK (gt q1) q42 <|
 nilckK (gt q42) q43 <|
 faK 0 (gt q43) q44 <|
 faK 3 (gt q44) q45 <|
 ld1D 8 240 (gt q45) q46 <|
 rK (evBuild [(.i .i64 0), (.b false), (.b false)] [(0, 1), (1, 1), (2, 1)]) [(gt q46), (ct (.b true)), (ct (.b true))] q47 <|
 efD 10 ⟨(some q48), .call (.c (.f q249 [])) [.t q38, .t q39, .t q40, .t q41, .t q47], none, 1023, false⟩ <|
 mvK (gt q48) q37 <|
 extK 0 (gt q37) q49 <|
 extK 1 (gt q37) q50 <|
 mvK (gt q49) q9 <|
 mvK (gt q50) q10 <|
 endD <|
 mvK (gt q10) q51 <|
 arK neqV (gt q51) (ct (.i .i64 0)) q52 <|
 condK (gt q52) (mvK (gt q6) q53 <|
 mvK (gt q10) q54 <|
 mvK (gt q53) q6 <|
 mvK (gt q54) q7 <|
 retK) (fin) <|
 mvK (gt q6) q55 <|
 mvK (gt q55) q56 <|
 gK q56 false q57 (mvK (gt q9) q57) <|
 pickK (gt q56) (ct (.b true)) (gt q57) q58 <|
 mvK (gt q58) q6 <|
 fin) <|
 arK addV (gt q34) (ct (.i .i64 1)) q59 <|
 mvK (gt q59) q34 <|
 fin) <|
 fin) <|
 mvK (gt q6) q60 <|
 mvK (gt q60) q6 <|
 mvK (ct (.i .i64 0)) q7 <|
 retK⟩
theorem ft250 : (compFn P9 Z9 250).map fastFn = some fn250 := by kernel_rfl
noncomputable def fn253 : FFn := ⟨[.t q3],
 boxK (gt q0) q2 <|
 mvK (ct (.b false)) q3 <|
 ldK 2 (gt q2) q4 <|
 ld1K (gt q1) q5 <|
 callK q161 [(gt q4), (gt q5)] q6 <|
 notK (gt q6) q7 <|
 mvK (gt q7) q3 <|
 retK⟩
theorem ft253 : (compFn P9 Z9 253).map fastFn = some fn253 := by kernel_rfl
noncomputable def fn254 : FFn := ⟨[.t q4],
 mvK (ct (.b false)) q4 <|
 mvK (gt q0) q5 <|
 mvK (gt q1) q6 <|
 callK q296 [(gt q5), (gt q6)] q7 <|
 arK geqV (gt q7) (ct (.i .i64 0)) q8 <|
 mvK (gt q8) q4 <|
 retK⟩
theorem ft254 : (compFn P9 Z9 254).map fastFn = some fn254 := by kernel_rfl
noncomputable def fn255 : FFn := ⟨[.t q3],
 boxK (gt q0) q2 <|
 mvK (ct (.b false)) q3 <|
 faK 0 (gt q2) q4 <|
 ld1K (gt q4) q5 <|
 faK 0 (gt q1) q6 <|
 ld1K (gt q6) q7 <|
 lensK (gt q7) q8 <|
 arK subV (gt q8) (ct (.i .i64 1)) q9 <|
 callK q180 [(gt q5), (ct (.i .i64 0)), (gt q9)] q10 <|
 notK (gt q10) q11 <|
 mvK (gt q11) q12 <|
 gK q12 false q13 (faK 0 (gt q1) q13) <|
 gK q12 false q14 (ld1K (gt q13) q14) <|
 gK q12 false q15 (faK 0 (gt q2) q15) <|
 gK q12 false q16 (ld1K (gt q15) q16) <|
 gK q12 false q17 (iaK 2 (gt q14) (gt q16) q17) <|
 gK q12 false q18 (ldK 2 (gt q17) q18) <|
 gK q12 false q19 (callK q230 [(gt q18)] q19) <|
 gK q12 false q20 (notK (gt q19) q20) <|
 pickK (gt q12) (ct (.b true)) (gt q20) q21 <|
 mvK (gt q21) q3 <|
 retK⟩
theorem ft255 : (compFn P9 Z9 255).map fastFn = some fn255 := by kernel_rfl
noncomputable def fn257 : FFn := ⟨[.t q4],
 mvK (ct (.i .i64 0)) q4 <|
 mvK (gt q0) q6 <|
 lensK (gt q6) q7 <|
 mvK (ct (.i .i64 0)) q8 <|
 blockK 0 (loopK (arK lssV (gt q8) (gt q7) q9 <|
 condK (gt q9) (fin) (exitK 0) <|
 blockK 1 (mvK (gt q8) q10 <|
 mvK (gt q10) q5 <|
 mvK (gt q1) q11 <|
 mvK (gt q0) q12 <|
 mvK (gt q5) q13 <|
 iaK 5 (gt q12) (gt q13) q14 <|
 ldK 5 (gt q14) q15 <|
 dynK (gt q11) [(gt q15)] q16 <|
 condK (gt q16) (mvK (gt q5) q17 <|
 mvK (gt q17) q4 <|
 retK) (fin) <|
 fin) <|
 arK addV (gt q8) (ct (.i .i64 1)) q18 <|
 mvK (gt q18) q8 <|
 fin) <|
 fin) <|
 mvK (ct (.i .i64 (-1))) q4 <|
 retK⟩
theorem ft257 : (compFn P9 Z9 257).map fastFn = some fn257 := by kernel_rfl
noncomputable def fn258 : FFn := ⟨[.t q2],
 mvK (ct (.b false)) q2 <|
 mvK (gt q0) q6 <|
 rK evLenstr [(gt q6)] q7 <|
 mvK (ct (.i .i64 0)) q8 <|
 blockK 0 (loopK (arK lssV (gt q8) (gt q7) q9 <|
 condK (gt q9) (fin) (exitK 0) <|
 blockK 1 (mvK (gt q8) q10 <|
 mvK (gt q10) q3 <|
 mvK (gt q0) q11 <|
 mvK (gt q3) q12 <|
 rK evIxs [(gt q11), (gt q12)] q13 <|
 arK geqV (gt q13) (ct (.i .u8 97)) q14 <|
 mvK (gt q14) q15 <|
 gK q15 true q16 (mvK (gt q0) q16) <|
 gK q15 true q17 (mvK (gt q3) q17) <|
 gK q15 true q18 (rK evIxs [(gt q16), (gt q17)] q18) <|
 gK q15 true q19 (arK leqV (gt q18) (ct (.i .u8 122)) q19) <|
 pickK (gt q15) (gt q19) (ct (.b false)) q20 <|
 mvK (gt q0) q21 <|
 mvK (gt q3) q22 <|
 rK evIxs [(gt q21), (gt q22)] q23 <|
 arK geqV (gt q23) (ct (.i .u8 48)) q24 <|
 mvK (gt q24) q25 <|
 gK q25 true q26 (mvK (gt q0) q26) <|
 gK q25 true q27 (mvK (gt q3) q27) <|
 gK q25 true q28 (rK evIxs [(gt q26), (gt q27)] q28) <|
 gK q25 true q29 (arK leqV (gt q28) (ct (.i .u8 57)) q29) <|
 pickK (gt q25) (gt q29) (ct (.b false)) q30 <|
 mvK (gt q30) q31 <|
 gK q31 false q32 (mvK (gt q0) q32) <|
 gK q31 false q33 (mvK (gt q3) q33) <|
 gK q31 false q34 (rK evIxs [(gt q32), (gt q33)] q34) <|
 gK q31 false q35 (arK eqlV (gt q34) (ct (.i .u8 46)) q35) <|
 pickK (gt q31) (ct (.b true)) (gt q35) q36 <|
 mvK (gt q20) q4 <|
 mvK (gt q36) q5 <|
 endD <|
 mvK (gt q4) q37 <|
 notK (gt q37) q38 <|
 mvK (gt q38) q39 <|
 gK q39 true q40 (mvK (gt q3) q40) <|
 gK q39 true q41 (arK eqlV (gt q40) (ct (.i .i64 0)) q41) <|
 gK q39 true q42 (mvK (gt q41) q42) <|
 gK q42 false q43 (mvK (gt q5) q43) <|
 gK q42 false q44 (notK (gt q43) q44) <|
 gK q39 true q45 (pickK (gt q42) (ct (.b true)) (gt q44) q45) <|
 pickK (gt q39) (gt q45) (ct (.b false)) q46 <|
 condK (gt q46) (mvK (ct (.b false)) q2 <|
 retK) (fin) <|
 fin) <|
 arK addV (gt q8) (ct (.i .i64 1)) q47 <|
 mvK (gt q47) q8 <|
 fin) <|
 fin) <|
 mvK (gt q0) q48 <|
 rK evLenstr [(gt q48)] q49 <|
 arK gtrV (gt q49) (ct (.i .i64 0)) q50 <|
 mvK (gt q50) q51 <|
 gK q51 true q52 (mvK (gt q0) q52) <|
 gK q51 true q53 (rK evLenstr [(gt q52)] q53) <|
 gK q51 true q54 (arK leqV (gt q53) (ct (.i .i64 24)) q54) <|
 pickK (gt q51) (gt q54) (ct (.b false)) q55 <|
 mvK (gt q55) q2 <|
 retK⟩
theorem ft258 : (compFn P9 Z9 258).map fastFn = some fn258 := by kernel_rfl
noncomputable def fn259 : FFn := ⟨[.t q8],
 boxK (gt q0) q4 <|
 boxK (gt q1) q5 <|
 boxK (gt q3) q7 <|
 mvK (ct (.b false)) q8 <|
 mvK (gt q2) q9 <|
 anyK ⟨(some q10), .rd (.mkf q297) [.t q4, .t q5, .t q7], none, 0, false⟩ <|
 callK q186 [(gt q9), (gt q10)] q11 <|
 notK (gt q11) q12 <|
 mvK (gt q12) q8 <|
 retK⟩
theorem ft259 : (compFn P9 Z9 259).map fastFn = some fn259 := by kernel_rfl
noncomputable def fn260 : FFn := ⟨[.cell q4 5, .t q5],
 boxK (gt q1) q3 <|
 alK [(.i .i64 0), (.i .i64 0), (.i .i64 0), (.i .i64 0), (.b false)] 5 q4 <|
 mvK (ct (.b false)) q5 <|
 rK (evBuild [(.i .i64 0), (.i .i64 0), (.i .i64 0), (.i .i64 0), (.b false)] [(0, 1), (1, 1)]) [(ct (.i .i64 1)), (ct (.i .i64 1))] q8 <|
 stK 5 (gt q4) (gt q8) <|
 faK 0 (gt q3) q9 <|
 ld1K (gt q9) q10 <|
 blockK 0 (arK eqlV (gt q10) (ct (.i .u8 1)) q13 <|
 mvK (gt q13) q12 <|
 condK (gt q12) (faK 2 (gt q4) q14 <|
 stK 1 (gt q14) (ct (.i .i64 (-1000000000))) <|
 faK 3 (gt q4) q15 <|
 stK 1 (gt q15) (ct (.i .i64 1000000000)) <|
 fin) (arK eqlV (gt q10) (ct (.i .u8 2)) q17 <|
 mvK (gt q17) q16 <|
 condK (gt q16) (faK 3 (gt q4) q18 <|
 stK 1 (gt q18) (ct (.i .i64 1)) <|
 fin) (arK eqlV (gt q10) (ct (.i .u8 4)) q20 <|
 mvK (gt q20) q19 <|
 condK (gt q19) (faK 1 (gt q3) q21 <|
 ld1K (gt q21) q22 <|
 callK q299 [(gt q22)] q23 <|
 faK 0 (gt q4) q24 <|
 stK 1 (gt q24) (gt q23) <|
 faK 4 (gt q4) q25 <|
 stK 1 (gt q25) (ct (.b true)) <|
 ldK 5 (gt q4) q26 <|
 faK 0 (gt q4) q27 <|
 ld1K (gt q27) q28 <|
 arK gtrV (gt q28) (ct (.i .i64 0)) q29 <|
 stK 5 (gt q4) (gt q26) <|
 mvK (gt q29) q5 <|
 retK) (arK eqlV (gt q10) (ct (.i .u8 5)) q31 <|
 mvK (gt q31) q30 <|
 condK (gt q30) (faK 0 (gt q4) q32 <|
 stK 1 (gt q32) (ct (.i .i64 2)) <|
 faK 1 (gt q4) q33 <|
 stK 1 (gt q33) (ct (.i .i64 2)) <|
 fin) (arK eqlV (gt q10) (ct (.i .u8 6)) q35 <|
 mvK (gt q35) q34 <|
 condK (gt q34) (fin) (arK eqlV (gt q10) (ct (.i .u8 7)) q36 <|
 mvK (gt q36) q34 <|
 condK (gt q34) (fin) (arK eqlV (gt q10) (ct (.i .u8 12)) q37 <|
 mvK (gt q37) q34 <|
 fin) <|
 fin) <|
 condK (gt q34) (faK 0 (gt q4) q38 <|
 stK 1 (gt q38) (ct (.i .i64 2)) <|
 fin) (arK eqlV (gt q10) (ct (.i .u8 11)) q40 <|
 mvK (gt q40) q39 <|
 condK (gt q39) (faK 0 (gt q4) q41 <|
 stK 1 (gt q41) (ct (.i .i64 3)) <|
 faK 1 (gt q4) q42 <|
 stK 1 (gt q42) (ct (.i .i64 0)) <|
 fin) (arK eqlV (gt q10) (ct (.i .u8 8)) q44 <|
 mvK (gt q44) q43 <|
 condK (gt q43) (fin) (arK eqlV (gt q10) (ct (.i .u8 9)) q45 <|
 mvK (gt q45) q43 <|
 fin) <|
 condK (gt q43) (mvK (gt q0) q47 <|
 nilckK (gt q47) q48 <|
 faK 1 (gt q48) q49 <|
 ld1D 3 7 (gt q49) q50 <|
 faK 1 (gt q3) q51 <|
 ld1D 5 16 (gt q51) q52 <|
 rdD 6 63 (.look false [2] (.i .i64 0) true) [(gt q50), (gt q52)] q53 <|
 mvK (gt q53) q46 <|
 extK 0 (gt q46) q54 <|
 extK 1 (gt q46) q55 <|
 mvK (gt q54) q6 <|
 mvK (gt q55) q7 <|
 endD <|
 mvK (gt q7) q56 <|
 notK (gt q56) q57 <|
 mvK (gt q57) q58 <|
 gK q58 false q59 (mvK (gt q0) q59) <|
 gK q58 false q60 (nilckK (gt q59) q60) <|
 gK q58 false q61 (faK 0 (gt q60) q61) <|
 gK q58 false q62 (ld1D 6 63 (gt q61) q62) <|
 gK q58 false q63 (mvK (gt q6) q63) <|
 gK q58 false q64 (iaK 5 (gt q62) (gt q63) q64) <|
 gK q58 false q65 (rdD 9 511 (.ld 5) [(gt q64)] q65) <|
 gK q58 false q66 (efD 10 ⟨(some q66), .call (.c (.f q234 [])) [.t q65], (some (q58, false)), 1023, false⟩) <|
 gK q58 false q67 (faK 0 (gt q3) q67) <|
 gK q58 false q68 (ld1D 12 2055 (gt q67) q68) <|
 gK q58 false q69 (arK eqlV (gt q68) (ct (.i .u8 9)) q69) <|
 gK q58 false q70 (rK (evEqb true) [(gt q66), (gt q69)] q70) <|
 pickK (gt q58) (ct (.b true)) (gt q70) q71 <|
 endD <|
 condK (gt q71) (ldK 5 (gt q4) q72 <|
 stK 5 (gt q4) (gt q72) <|
 mvK (ct (.b false)) q5 <|
 retK) (fin) <|
 mvK (gt q0) q73 <|
 nilckK (gt q73) q74 <|
 faK 0 (gt q74) q75 <|
 ld1D 3 7 (gt q75) q76 <|
 mvK (gt q6) q77 <|
 iaK 5 (gt q76) (gt q77) q78 <|
 faK 1 (gt q78) q79 <|
 ld1D 7 127 (gt q79) q80 <|
 mvK (gt q0) q81 <|
 nilckK (gt q81) q82 <|
 faK 0 (gt q82) q83 <|
 ld1D 11 1792 (gt q83) q84 <|
 mvK (gt q6) q85 <|
 iaK 5 (gt q84) (gt q85) q86 <|
 faK 4 (gt q86) q87 <|
 ld1D 15 32512 (gt q87) q88 <|
 lensK (gt q88) q89 <|
 rK (evBuild [(.i .i64 0), (.i .i64 0), (.i .i64 0), (.i .i64 0), (.b false)] [(0, 1), (1, 1), (4, 1)]) [(gt q80), (gt q89), (ct (.b true))] q90 <|
 efD 18 ⟨none, .ef (.st 5) [.t q4, .t q90], none, 262143, false⟩ <|
 mvK (ct (.b true)) q5 <|
 endD <|
 retK) (arK eqlV (gt q10) (ct (.i .u8 3)) q92 <|
 mvK (gt q92) q91 <|
 condK (gt q91) (fin) (arK eqlV (gt q10) (ct (.i .u8 10)) q93 <|
 mvK (gt q93) q91 <|
 condK (gt q91) (fin) (arK eqlV (gt q10) (ct (.i .u8 13)) q94 <|
 mvK (gt q94) q91 <|
 condK (gt q91) (fin) (arK eqlV (gt q10) (ct (.i .u8 14)) q95 <|
 mvK (gt q95) q91 <|
 fin) <|
 fin) <|
 fin) <|
 condK (gt q91) (fin) (ldK 5 (gt q4) q11 <|
 stK 5 (gt q4) (gt q11) <|
 mvK (ct (.b false)) q5 <|
 retK) <|
 fin) <|
 fin) <|
 fin) <|
 fin) <|
 fin) <|
 fin) <|
 fin) <|
 fin) <|
 ldK 5 (gt q4) q96 <|
 stK 5 (gt q4) (gt q96) <|
 mvK (ct (.b true)) q5 <|
 retK⟩
theorem ft260 : (compFn P9 Z9 260).map fastFn = some fn260 := by kernel_rfl
noncomputable def fn262 : FFn := ⟨[],
 mvK (gt q1) q10 <|
 arK addV (gt q10) (ct (.i .i64 1)) q11 <|
 mvK (gt q11) q8 <|
 blockK 0 (loopK (mvK (gt q8) q12 <|
 mvK (gt q2) q13 <|
 arK lssV (gt q12) (gt q13) q14 <|
 condK (gt q14) (fin) (exitK 0) <|
 blockK 1 (mvK (gt q8) q17 <|
 mvK (gt q17) q9 <|
 blockK 2 (loopK (mvK (gt q9) q18 <|
 mvK (gt q1) q19 <|
 arK gtrV (gt q18) (gt q19) q20 <|
 mvK (gt q20) q21 <|
 gK q21 true q22 (mvK (gt q3) q22) <|
 gK q21 true q23 (mvK (gt q0) q23) <|
 gK q21 true q24 (mvK (gt q9) q24) <|
 gK q21 true q25 (iaK 2 (gt q23) (gt q24) q25) <|
 gK q21 true q26 (rdD 8 239 (.ld 2) [(gt q25)] q26) <|
 gK q21 true q27 (mvK (gt q0) q27) <|
 gK q21 true q28 (mvK (gt q9) q28) <|
 gK q21 true q29 (arK subV (gt q28) (ct (.i .i64 1)) q29) <|
 gK q21 true q30 (iaK 2 (gt q27) (gt q29) q30) <|
 gK q21 true q31 (rdD 13 7695 (.ld 2) [(gt q30)] q31) <|
 gK q21 true q32 (efD 14 ⟨(some q32), .call (.t q22) [.t q26, .t q31], (some (q21, true)), 16383, false⟩) <|
 gK q21 true q33 (arK lssV (gt q32) (ct (.i .i64 0)) q33) <|
 pickK (gt q21) (gt q33) (ct (.b false)) q34 <|
 endD <|
 condK (gt q34) (fin) (exitK 2) <|
 blockK 3 (mvK (gt q0) q37 <|
 mvK (gt q9) q38 <|
 mvK (gt q0) q39 <|
 mvK (gt q9) q40 <|
 arK subV (gt q40) (ct (.i .i64 1)) q41 <|
 mvK (gt q0) q42 <|
 mvK (gt q9) q43 <|
 arK subV (gt q43) (ct (.i .i64 1)) q44 <|
 iaK 2 (gt q42) (gt q44) q45 <|
 rdD 9 480 (.ld 2) [(gt q45)] q46 <|
 mvK (gt q0) q47 <|
 mvK (gt q9) q48 <|
 iaK 2 (gt q47) (gt q48) q49 <|
 rdD 13 7168 (.ld 2) [(gt q49)] q50 <|
 iaK 2 (gt q37) (gt q38) q51 <|
 efD 15 ⟨none, .ef (.st 2) [.t q51, .t q46], none, 32739, false⟩ <|
 iaK 2 (gt q39) (gt q41) q52 <|
 efD 17 ⟨none, .ef (.st 2) [.t q52, .t q50], none, 131071, false⟩ <|
 endD <|
 fin) <|
 mvK (gt q9) q35 <|
 arK subV (gt q35) (ct (.i .i64 1)) q36 <|
 mvK (gt q36) q9 <|
 fin) <|
 fin) <|
 fin) <|
 mvK (gt q8) q15 <|
 arK addV (gt q15) (ct (.i .i64 1)) q16 <|
 mvK (gt q16) q8 <|
 fin) <|
 fin) <|
 fin⟩
theorem ft262 : (compFn P9 Z9 262).map fastFn = some fn262 := by kernel_rfl
noncomputable def fn263 : FFn := ⟨[],
 mvK (gt q1) q13 <|
 mvK (gt q13) q8 <|
 mvK (ct (.i .i64 0)) q9 <|
 mvK (gt q2) q14 <|
 mvK (gt q1) q15 <|
 arK subV (gt q14) (gt q15) q16 <|
 mvK (gt q16) q10 <|
 mvK (gt q10) q17 <|
 arK subV (gt q17) (ct (.i .i64 1)) q18 <|
 rK (evBin .quo) [(gt q18), (ct (.i .i64 2))] q19 <|
 mvK (gt q19) q11 <|
 blockK 0 (loopK (mvK (gt q11) q20 <|
 arK geqV (gt q20) (ct (.i .i64 0)) q21 <|
 condK (gt q21) (fin) (exitK 0) <|
 blockK 1 (mvK (gt q0) q24 <|
 mvK (gt q11) q25 <|
 mvK (gt q10) q26 <|
 mvK (gt q8) q27 <|
 mvK (gt q3) q28 <|
 callK q309 [(gt q24), (gt q25), (gt q26), (gt q27), (gt q28)] q29 <|
 fin) <|
 mvK (gt q11) q22 <|
 arK subV (gt q22) (ct (.i .i64 1)) q23 <|
 mvK (gt q23) q11 <|
 fin) <|
 fin) <|
 mvK (gt q10) q30 <|
 arK subV (gt q30) (ct (.i .i64 1)) q31 <|
 mvK (gt q31) q12 <|
 blockK 2 (loopK (mvK (gt q12) q32 <|
 arK geqV (gt q32) (ct (.i .i64 0)) q33 <|
 condK (gt q33) (fin) (exitK 2) <|
 blockK 3 (mvK (gt q0) q36 <|
 mvK (gt q8) q37 <|
 mvK (gt q0) q38 <|
 mvK (gt q8) q39 <|
 mvK (gt q12) q40 <|
 arK addV (gt q39) (gt q40) q41 <|
 mvK (gt q0) q42 <|
 mvK (gt q8) q43 <|
 mvK (gt q12) q44 <|
 arK addV (gt q43) (gt q44) q45 <|
 iaK 2 (gt q42) (gt q45) q46 <|
 rdD 11 1984 (.ld 2) [(gt q46)] q47 <|
 mvK (gt q0) q48 <|
 mvK (gt q8) q49 <|
 iaK 2 (gt q48) (gt q49) q50 <|
 rdD 15 28672 (.ld 2) [(gt q50)] q51 <|
 iaK 2 (gt q36) (gt q37) q52 <|
 efD 17 ⟨none, .ef (.st 2) [.t q52, .t q47], none, 131011, false⟩ <|
 iaK 2 (gt q38) (gt q41) q53 <|
 efD 19 ⟨none, .ef (.st 2) [.t q53, .t q51], none, 524287, false⟩ <|
 endD <|
 mvK (gt q0) q54 <|
 mvK (gt q9) q55 <|
 mvK (gt q12) q56 <|
 mvK (gt q8) q57 <|
 mvK (gt q3) q58 <|
 callK q309 [(gt q54), (gt q55), (gt q56), (gt q57), (gt q58)] q59 <|
 fin) <|
 mvK (gt q12) q34 <|
 arK subV (gt q34) (ct (.i .i64 1)) q35 <|
 mvK (gt q35) q12 <|
 fin) <|
 fin) <|
 fin⟩
theorem ft263 : (compFn P9 Z9 263).map fastFn = some fn263 := by kernel_rfl
noncomputable def fn264 : FFn := ⟨[],
 mvK (gt q2) q13 <|
 mvK (gt q1) q14 <|
 arK subV (gt q13) (gt q14) q15 <|
 mvK (gt q15) q8 <|
 mvK (gt q8) q16 <|
 arK geqV (gt q16) (ct (.i .i64 8)) q17 <|
 condK (gt q17) (mvK (gt q8) q18 <|
 cviK .u64 (gt q18) q19 <|
 alK [(.i .u64 0)] 1 q9 <|
 stK 1 (gt q9) (gt q19) <|
 mvK (gt q8) q20 <|
 callK q310 [(gt q20)] q21 <|
 mvK (gt q21) q10 <|
 mvK (gt q1) q22 <|
 mvK (gt q8) q23 <|
 rK (evBin .quo) [(gt q23), (ct (.i .i64 4))] q24 <|
 arK mulV (gt q24) (ct (.i .i64 2)) q25 <|
 arK addV (gt q22) (gt q25) q26 <|
 arK subV (gt q26) (ct (.i .i64 1)) q27 <|
 mvK (gt q27) q11 <|
 blockK 0 (loopK (mvK (gt q11) q28 <|
 mvK (gt q1) q29 <|
 mvK (gt q8) q30 <|
 rK (evBin .quo) [(gt q30), (ct (.i .i64 4))] q31 <|
 arK mulV (gt q31) (ct (.i .i64 2)) q32 <|
 arK addV (gt q29) (gt q32) q33 <|
 arK addV (gt q33) (ct (.i .i64 1)) q34 <|
 arK leqV (gt q28) (gt q34) q35 <|
 condK (gt q35) (fin) (exitK 0) <|
 blockK 1 (callK q311 [(gt q9)] q38 <|
 mvK (gt q10) q39 <|
 arK subV (gt q39) (ct (.i .u64 1)) q40 <|
 rK (evBin .and) [(gt q38), (gt q40)] q41 <|
 cviK .i64 (gt q41) q42 <|
 mvK (gt q42) q12 <|
 mvK (gt q12) q43 <|
 mvK (gt q8) q44 <|
 arK geqV (gt q43) (gt q44) q45 <|
 condK (gt q45) (mvK (gt q12) q46 <|
 mvK (gt q8) q47 <|
 arK subV (gt q46) (gt q47) q48 <|
 mvK (gt q48) q12 <|
 fin) (fin) <|
 mvK (gt q0) q49 <|
 mvK (gt q11) q50 <|
 mvK (gt q0) q51 <|
 mvK (gt q1) q52 <|
 mvK (gt q12) q53 <|
 arK addV (gt q52) (gt q53) q54 <|
 mvK (gt q0) q55 <|
 mvK (gt q1) q56 <|
 mvK (gt q12) q57 <|
 arK addV (gt q56) (gt q57) q58 <|
 iaK 2 (gt q55) (gt q58) q59 <|
 rdD 11 1984 (.ld 2) [(gt q59)] q60 <|
 mvK (gt q0) q61 <|
 mvK (gt q11) q62 <|
 iaK 2 (gt q61) (gt q62) q63 <|
 rdD 15 28672 (.ld 2) [(gt q63)] q64 <|
 iaK 2 (gt q49) (gt q50) q65 <|
 efD 17 ⟨none, .ef (.st 2) [.t q65, .t q60], none, 131011, false⟩ <|
 iaK 2 (gt q51) (gt q54) q66 <|
 efD 19 ⟨none, .ef (.st 2) [.t q66, .t q64], none, 524287, false⟩ <|
 endD <|
 fin) <|
 mvK (gt q11) q36 <|
 arK addV (gt q36) (ct (.i .i64 1)) q37 <|
 mvK (gt q37) q11 <|
 fin) <|
 fin) <|
 fin) (fin) <|
 fin⟩
theorem ft264 : (compFn P9 Z9 264).map fastFn = some fn264 := by kernel_rfl
noncomputable def fn265 : FFn := ⟨[.t q8, .t q9],
 mvK (ct (.i .i64 0)) q8 <|
 mvK (ct (.i .i64 0)) q9 <|
 mvK (gt q2) q15 <|
 mvK (gt q1) q16 <|
 arK subV (gt q15) (gt q16) q17 <|
 mvK (gt q17) q10 <|
 alK [(.i .i64 0)] 1 q11 <|
 mvK (gt q1) q18 <|
 mvK (gt q10) q19 <|
 rK (evBin .quo) [(gt q19), (ct (.i .i64 4))] q20 <|
 arK mulV (gt q20) (ct (.i .i64 1)) q21 <|
 arK addV (gt q18) (gt q21) q22 <|
 mvK (gt q22) q12 <|
 mvK (gt q1) q23 <|
 mvK (gt q10) q24 <|
 rK (evBin .quo) [(gt q24), (ct (.i .i64 4))] q25 <|
 arK mulV (gt q25) (ct (.i .i64 2)) q26 <|
 arK addV (gt q23) (gt q26) q27 <|
 mvK (gt q27) q13 <|
 mvK (gt q1) q28 <|
 mvK (gt q10) q29 <|
 rK (evBin .quo) [(gt q29), (ct (.i .i64 4))] q30 <|
 arK mulV (gt q30) (ct (.i .i64 3)) q31 <|
 arK addV (gt q28) (gt q31) q32 <|
 mvK (gt q32) q14 <|
 mvK (gt q10) q33 <|
 arK geqV (gt q33) (ct (.i .i64 8)) q34 <|
 condK (gt q34) (mvK (gt q10) q35 <|
 arK geqV (gt q35) (ct (.i .i64 50)) q36 <|
 condK (gt q36) (mvK (gt q0) q37 <|
 mvK (gt q12) q38 <|
 mvK (gt q3) q39 <|
 callK q312 [(gt q37), (gt q38), (gt q11), (gt q39)] q40 <|
 mvK (gt q40) q12 <|
 mvK (gt q0) q41 <|
 mvK (gt q13) q42 <|
 mvK (gt q3) q43 <|
 callK q312 [(gt q41), (gt q42), (gt q11), (gt q43)] q44 <|
 mvK (gt q44) q13 <|
 mvK (gt q0) q45 <|
 mvK (gt q14) q46 <|
 mvK (gt q3) q47 <|
 callK q312 [(gt q45), (gt q46), (gt q11), (gt q47)] q48 <|
 mvK (gt q48) q14 <|
 fin) (fin) <|
 mvK (gt q0) q49 <|
 mvK (gt q12) q50 <|
 mvK (gt q13) q51 <|
 mvK (gt q14) q52 <|
 mvK (gt q3) q53 <|
 callK q313 [(gt q49), (gt q50), (gt q51), (gt q52), (gt q11), (gt q53)] q54 <|
 mvK (gt q54) q13 <|
 fin) (fin) <|
 ld1K (gt q11) q55 <|
 blockK 0 (arK eqlV (gt q55) (ct (.i .i64 0)) q58 <|
 mvK (gt q58) q57 <|
 condK (gt q57) (mvK (gt q13) q59 <|
 mvK (gt q59) q8 <|
 mvK (ct (.i .i64 1)) q9 <|
 retK) (arK eqlV (gt q55) (ct (.i .i64 12)) q61 <|
 mvK (gt q61) q60 <|
 condK (gt q60) (mvK (gt q13) q62 <|
 mvK (gt q62) q8 <|
 mvK (ct (.i .i64 2)) q9 <|
 retK) (mvK (gt q13) q56 <|
 mvK (gt q56) q8 <|
 mvK (ct (.i .i64 0)) q9 <|
 retK) <|
 fin) <|
 fin) <|
 fin⟩
theorem ft265 : (compFn P9 Z9 265).map fastFn = some fn265 := by kernel_rfl
end Go.Proofs.YtkfdbldnghcngaaGreat.Fast
