/- The seat's functions as closures. -/
import Derived.Test.YtkfdbldnghcngaaGreatTq
namespace Go.Proofs.YtkfdbldnghcngaaGreat.Fast
open Go.Fg
noncomputable def fn122 : FFn := ⟨[.t q4],
 mvK (ct (.i .i64 0)) q4 <|
 mvK (gt q0) q6 <|
 lensK (gt q6) q7 <|
 mvK (ct (.i .i64 0)) q8 <|
 blockK 0 (loopK (arK lssV (gt q8) (gt q7) q9 <|
 condK (gt q9) (fin) (exitK 0) <|
 blockK 1 (mvK (gt q8) q10 <|
 mvK (gt q10) q5 <|
 mvK (gt q1) q11 <|
 mvK (gt q0) q12 <|
 mvK (gt q5) q13 <|
 iaK 1 (gt q12) (gt q13) q14 <|
 ld1K (gt q14) q15 <|
 dynK (gt q11) [(gt q15)] q16 <|
 condK (gt q16) (mvK (gt q5) q17 <|
 mvK (gt q17) q4 <|
 retK) (fin) <|
 fin) <|
 arK addV (gt q8) (ct (.i .i64 1)) q18 <|
 mvK (gt q18) q8 <|
 fin) <|
 fin) <|
 mvK (ct (.i .i64 (-1))) q4 <|
 retK⟩
theorem ft122 : (compFn P9 Z9 122).map fastFn = some fn122 := by kernel_rfl
noncomputable def fn123 : FFn := ⟨[.t q2, .t q3],
 mvK (ct (.i .i64 0)) q2 <|
 mvK (ct (.i .i64 0)) q3 <|
 mvK (gt q0) q7 <|
 callK q108 [(gt q7)] q8 <|
 mvK (gt q8) q6 <|
 extK 0 (gt q6) q9 <|
 extK 1 (gt q6) q10 <|
 mvK (gt q9) q4 <|
 mvK (gt q10) q5 <|
 mvK (gt q5) q11 <|
 arK neqV (gt q11) (ct (.i .i64 0)) q12 <|
 condK (gt q12) (mvK (gt q5) q13 <|
 mvK (ct (.i .i64 0)) q2 <|
 mvK (gt q13) q3 <|
 retK) (fin) <|
 mvK (gt q4) q14 <|
 nilckK (gt q14) q15 <|
 faK 0 (gt q15) q16 <|
 ld1D 3 7 (gt q16) q17 <|
 mvK (gt q4) q18 <|
 nilckK (gt q18) q19 <|
 faK 1 (gt q19) q20 <|
 ld1D 7 112 (gt q20) q21 <|
 rdD 8 240 (.look false [2] (.i .i64 0) false) [(gt q21), (ct (.s [109, 97, 105, 110]))] q22 <|
 iaK 5 (gt q17) (gt q22) q23 <|
 faK 1 (gt q23) q24 <|
 ld1D 11 2047 (gt q24) q25 <|
 arK subV (gt q25) (ct (.i .i64 1)) q26 <|
 mvK (gt q26) q2 <|
 mvK (ct (.i .i64 0)) q3 <|
 endD <|
 retK⟩
theorem ft123 : (compFn P9 Z9 123).map fastFn = some fn123 := by kernel_rfl
noncomputable def fn124 : FFn := ⟨[.t q4],
 boxK (gt q1) q3 <|
 mvK (ct (.i .i64 0)) q4 <|
 faK 0 (gt q3) q5 <|
 ld1K (gt q5) q6 <|
 lensK (gt q6) q7 <|
 mvK (gt q0) q8 <|
 arK neqV (gt q7) (gt q8) q9 <|
 mvK (gt q9) q10 <|
 gK q10 false q11 (faK 1 (gt q3) q11) <|
 gK q10 false q12 (ld1K (gt q11) q12) <|
 gK q10 false q13 (lensK (gt q12) q13) <|
 gK q10 false q14 (mvK (gt q0) q14) <|
 gK q10 false q15 (arK neqV (gt q13) (gt q14) q15) <|
 pickK (gt q10) (ct (.b true)) (gt q15) q16 <|
 mvK (gt q16) q17 <|
 gK q17 false q18 (mvK (gt q0) q18) <|
 gK q17 false q19 (arK gtrV (gt q18) (ct (.i .i64 3)) q19) <|
 pickK (gt q17) (ct (.b true)) (gt q19) q20 <|
 condK (gt q20) (mvK (ct (.i .i64 2)) q4 <|
 retK) (fin) <|
 faK 0 (gt q3) q21 <|
 ld1K (gt q21) q22 <|
 callK q176 [(gt q22), (ct (.f q177 []))] q23 <|
 condK (gt q23) (mvK (ct (.i .i64 5)) q4 <|
 retK) (fin) <|
 mvK (ct (.i .i64 0)) q4 <|
 retK⟩
theorem ft124 : (compFn P9 Z9 124).map fastFn = some fn124 := by kernel_rfl
noncomputable def fn125 : FFn := ⟨[.cell q4 1, .t q5, .t q6],
 alK [.sn] 1 q4 <|
 mvK (ct .sn) q5 <|
 mvK (ct (.i .i64 0)) q6 <|
 mvK (gt q1) q14 <|
 lensK (gt q14) q15 <|
 mvK (gt q0) q16 <|
 lensK (gt q16) q17 <|
 arK neqV (gt q15) (gt q17) q18 <|
 condK (gt q18) (ldK 1 (gt q4) q19 <|
 stK 1 (gt q4) (gt q19) <|
 mvK (ct .sn) q5 <|
 mvK (ct (.i .i64 2)) q6 <|
 retK) (fin) <|
 mvK (gt q0) q20 <|
 callK q178 [(gt q20)] q21 <|
 mvK (gt q21) q7 <|
 blockK 0 (mvK (gt q7) q23 <|
 callK q69 [(gt q23), (ct (.f q179 []))] q24 <|
 mvK (gt q24) q22 <|
 condK (gt q22) (ldK 1 (gt q4) q25 <|
 stK 1 (gt q4) (gt q25) <|
 mvK (ct .sn) q5 <|
 mvK (ct (.i .i64 3)) q6 <|
 retK) (mvK (gt q7) q27 <|
 lensK (gt q27) q28 <|
 arK gtrV (gt q28) (ct (.i .i64 400)) q29 <|
 mvK (gt q29) q26 <|
 condK (gt q26) (ldK 1 (gt q4) q30 <|
 stK 1 (gt q4) (gt q30) <|
 mvK (ct .sn) q5 <|
 mvK (ct (.i .i64 5)) q6 <|
 retK) (fin) <|
 fin) <|
 fin) <|
 mvK (gt q0) q31 <|
 lensK (gt q31) q32 <|
 mvK (ct (.i .i64 0)) q33 <|
 blockK 1 (loopK (arK lssV (gt q33) (gt q32) q34 <|
 condK (gt q34) (fin) (exitK 1) <|
 blockK 2 (mvK (gt q33) q35 <|
 iaK 1 (gt q31) (gt q33) q36 <|
 ld1K (gt q36) q37 <|
 mvK (gt q35) q8 <|
 mvK (gt q37) q9 <|
 callK q181 [] q38 <|
 alK [(.i .u8 0), (.i .i64 0)] 2 q10 <|
 stK 2 (gt q10) (gt q38) <|
 mvK (gt q1) q39 <|
 mvK (gt q8) q40 <|
 iaK 1 (gt q39) (gt q40) q41 <|
 ld1K (gt q41) q42 <|
 condK (gt q42) (callK q182 [] q43 <|
 stK 2 (gt q10) (gt q43) <|
 fin) (fin) <|
 anyK ⟨(some q44), .rd (.mkf q183) [.t q10, .t q4], none, 0, false⟩ <|
 mvK (gt q44) q11 <|
 mvK (gt q5) q45 <|
 mvK (gt q11) q46 <|
 mvK (gt q9) q47 <|
 lensK (gt q47) q48 <|
 dynK (gt q46) [(gt q48)] q49 <|
 aK (alRows 1 2) [(gt q49)] q50 <|
 eK (efApp 2 16) [(gt q45), (gt q50)] q51 <|
 mvK (gt q51) q5 <|
 mvK (gt q9) q52 <|
 lensK (gt q52) q53 <|
 mvK (ct (.i .i64 0)) q54 <|
 blockK 3 (loopK (arK lssV (gt q54) (gt q53) q55 <|
 condK (gt q55) (fin) (exitK 3) <|
 blockK 4 (mvK (gt q54) q56 <|
 iaK 1 (gt q52) (gt q54) q57 <|
 ld1K (gt q57) q58 <|
 mvK (gt q56) q12 <|
 mvK (gt q58) q13 <|
 faK 0 (gt q4) q59 <|
 ld1D 1 1 (gt q59) q60 <|
 mvK (gt q13) q61 <|
 efD 3 ⟨(some q62), .call (.c (.f q184 [])) [.t q61], none, 4, false⟩ <|
 efD 4 ⟨(some q63), .call (.c (.f q181 [])) [], none, 12, false⟩ <|
 aK (alRows 2 2) [(gt q62), (gt q63)] q64 <|
 rK (evBuild [.sn, .sn] [(0, 1)]) [(gt q64)] q65 <|
 aK (alRows 1 2) [(gt q65)] q66 <|
 efD 8 ⟨(some q67), .ef (.app 2 48) [.t q60, .t q66], none, 255, false⟩ <|
 faK 0 (gt q4) q68 <|
 efD 10 ⟨none, .ef (.st 1) [.t q68, .t q67], none, 1023, false⟩ <|
 endD <|
 faK 0 (gt q4) q69 <|
 ld1D 1 1 (gt q69) q70 <|
 faK 0 (gt q4) q71 <|
 ld1D 3 4 (gt q71) q72 <|
 lensK (gt q72) q73 <|
 arK subV (gt q73) (ct (.i .i64 1)) q74 <|
 iaK 2 (gt q70) (gt q74) q75 <|
 faK 0 (gt q75) q76 <|
 ld1D 8 255 (gt q76) q77 <|
 mvK (gt q11) q78 <|
 mvK (gt q9) q79 <|
 lensK (gt q79) q80 <|
 arK subV (gt q80) (ct (.i .i64 1)) q81 <|
 mvK (gt q12) q82 <|
 arK subV (gt q81) (gt q82) q83 <|
 efD 15 ⟨(some q84), .call (.t q78) [.t q83], none, 32256, false⟩ <|
 iaK 2 (gt q77) (ct (.i .i64 1)) q85 <|
 efD 17 ⟨none, .ef (.st 2) [.t q85, .t q84], none, 131071, false⟩ <|
 endD <|
 fin) <|
 arK addV (gt q54) (ct (.i .i64 1)) q86 <|
 mvK (gt q86) q54 <|
 fin) <|
 fin) <|
 fin) <|
 arK addV (gt q33) (ct (.i .i64 1)) q87 <|
 mvK (gt q87) q33 <|
 fin) <|
 fin) <|
 ldK 1 (gt q4) q88 <|
 mvK (gt q5) q89 <|
 stK 1 (gt q4) (gt q88) <|
 mvK (gt q89) q5 <|
 mvK (ct (.i .i64 0)) q6 <|
 retK⟩
theorem ft125 : (compFn P9 Z9 125).map fastFn = some fn125 := by kernel_rfl
noncomputable def fn126 : FFn := ⟨[.t q10],
 mvK (ct .pn) q10 <|
 mvK (gt q0) q16 <|
 nilckK (gt q16) q17 <|
 faK 0 (gt q17) q18 <|
 ld1K (gt q18) q19 <|
 mvK (gt q1) q20 <|
 iaK 5 (gt q19) (gt q20) q21 <|
 ldK 5 (gt q21) q22 <|
 alK [(.s []), (.i .i64 0), .sn, .sn, .sn] 5 q11 <|
 stK 5 (gt q11) (gt q22) <|
 mvK (gt q1) q23 <|
 mvK (gt q2) q24 <|
 mvK (gt q3) q25 <|
 mvK (gt q4) q26 <|
 faK 1 (gt q11) q27 <|
 ld1D 5 16 (gt q27) q28 <|
 anyK ⟨(some q29), .al (.mks [(.i .u8 0), (.i .i64 0)] 2 16) [.t q28, .t q28], none, 48, false⟩ <|
 faK 2 (gt q11) q30 <|
 ld1D 8 128 (gt q30) q31 <|
 lensK (gt q31) q32 <|
 anyK ⟨(some q33), .al (.mks [(.i .i64 0)] 1 8) [.t q32, .t q32], none, 896, false⟩ <|
 rK (evBuild [(.i .i64 0), (.i .i64 0), (.i .i64 0), (.i .i64 0), .sn, .sn, .sn] [(0, 1), (1, 1), (2, 1), (3, 1), (4, 1), (6, 1)]) [(gt q23), (gt q24), (gt q25), (gt q26), (gt q29), (gt q33)] q34 <|
 rK (evBuild [(.i .i64 0), (.i .i64 0), (.i .i64 0), (.i .i64 0), .sn, .sn, .sn, (.i .i64 0), .sn] [(0, 7), (7, 1)]) [(gt q34), (ct (.i .i64 (-1)))] q35 <|
 boxK (gt q35) q36 <|
 mvK (gt q36) q12 <|
 endD <|
 faK 2 (gt q11) q37 <|
 ld1K (gt q37) q38 <|
 lensK (gt q38) q39 <|
 mvK (ct (.i .i64 0)) q40 <|
 blockK 0 (loopK (arK lssV (gt q40) (gt q39) q41 <|
 condK (gt q41) (fin) (exitK 0) <|
 blockK 1 (iaK 4 (gt q38) (gt q40) q42 <|
 ldK 4 (gt q42) q43 <|
 alK [(.i .u8 0), (.s []), (.i .i64 0), .sn] 4 q14 <|
 stK 4 (gt q14) (gt q43) <|
 mvK (gt q0) q44 <|
 nilckK (gt q44) q45 <|
 faK 0 (gt q45) q46 <|
 ld1D 3 7 (gt q46) q47 <|
 rdD 4 0 (.ld 4) [(gt q14)] q48 <|
 efD 5 ⟨(some q49), .call (.c (.f q185 [])) [.t q47, .t q48], none, 31, false⟩ <|
 mvK (gt q49) q15 <|
 endD <|
 mvK (gt q12) q50 <|
 mvK (gt q12) q51 <|
 nilckK (gt q51) q52 <|
 faK 0 (gt q52) q53 <|
 faK 5 (gt q53) q54 <|
 ld1D 5 30 (gt q54) q55 <|
 mvK (gt q15) q56 <|
 anyK ⟨(some q57), .al (.mks [(.i .u8 0), (.i .i64 0)] 2 16) [.t q56, .t q56], none, 64, false⟩ <|
 aK (alRows 1 1) [(gt q57)] q58 <|
 efD 9 ⟨(some q59), .ef (.app 1 24) [.t q55, .t q58], none, 510, false⟩ <|
 nilckK (gt q50) q60 <|
 faK 0 (gt q60) q61 <|
 faK 5 (gt q61) q62 <|
 efD 13 ⟨none, .ef (.st 1) [.t q62, .t q59], none, 8191, false⟩ <|
 endD <|
 mvK (gt q12) q63 <|
 mvK (gt q12) q64 <|
 nilckK (gt q64) q65 <|
 faK 8 (gt q65) q66 <|
 ld1D 4 14 (gt q66) q67 <|
 mvK (gt q15) q68 <|
 anyK ⟨(some q69), .al (.mks [(.i .i64 0), (.b false), (.b false)] 3 16) [.t q68, .t q68], none, 32, false⟩ <|
 aK (alRows 1 1) [(gt q69)] q70 <|
 efD 8 ⟨(some q71), .ef (.app 1 24) [.t q67, .t q70], none, 254, false⟩ <|
 nilckK (gt q63) q72 <|
 faK 8 (gt q72) q73 <|
 efD 11 ⟨none, .ef (.st 1) [.t q73, .t q71], none, 2047, false⟩ <|
 endD <|
 fin) <|
 arK addV (gt q40) (ct (.i .i64 1)) q74 <|
 mvK (gt q74) q40 <|
 fin) <|
 fin) <|
 mvK (gt q12) q75 <|
 mvK (gt q75) q10 <|
 retK⟩
theorem ft126 : (compFn P9 Z9 126).map fastFn = some fn126 := by kernel_rfl
noncomputable def fn127 : FFn := ⟨[.t q6],
 boxK (gt q1) q4 <|
 mvK (ct (.b false)) q6 <|
 mvK (gt q0) q8 <|
 nilckK (gt q8) q9 <|
 faK 0 (gt q9) q10 <|
 ld1D 3 7 (gt q10) q11 <|
 ld1D 4 0 (gt q4) q12 <|
 nilckK (gt q12) q13 <|
 faK 0 (gt q13) q14 <|
 faK 0 (gt q14) q15 <|
 ld1D 8 240 (gt q15) q16 <|
 iaK 5 (gt q11) (gt q16) q17 <|
 faK 2 (gt q17) q18 <|
 ld1D 11 2047 (gt q18) q19 <|
 mvK (gt q2) q20 <|
 iaK 4 (gt q19) (gt q20) q21 <|
 rdD 14 16383 (.ld 4) [(gt q21)] q22 <|
 alK [(.i .u8 0), (.s []), (.i .i64 0), .sn] 4 q7 <|
 efD 16 ⟨none, .ef (.st 4) [.t q7, .t q22], none, 65535, false⟩ <|
 endD <|
 ld1K (gt q4) q23 <|
 nilckK (gt q23) q24 <|
 faK 0 (gt q24) q25 <|
 faK 6 (gt q25) q26 <|
 ld1K (gt q26) q27 <|
 mvK (gt q2) q28 <|
 iaK 1 (gt q27) (gt q28) q29 <|
 ld1K (gt q29) q30 <|
 arK gtrV (gt q30) (ct (.i .i64 0)) q31 <|
 condK (gt q31) (mvK (ct (.b false)) q6 <|
 retK) (fin) <|
 faK 0 (gt q7) q32 <|
 ld1K (gt q32) q33 <|
 blockK 0 (arK eqlV (gt q33) (ct (.i .u8 8)) q35 <|
 mvK (gt q35) q34 <|
 condK (gt q34) (fin) (arK eqlV (gt q33) (ct (.i .u8 9)) q36 <|
 mvK (gt q36) q34 <|
 fin) <|
 condK (gt q34) (ld1D 0 0 (gt q4) q37 <|
 faK 3 (gt q7) q38 <|
 ld1D 2 2 (gt q38) q39 <|
 iaK 2 (gt q39) (ct (.i .i64 0)) q40 <|
 rdD 4 14 (.ld 2) [(gt q40)] q41 <|
 efD 5 ⟨(some q42), .call (.c (.f q92 [])) [.t q37, .t q41], none, 31, false⟩ <|
 efD 6 ⟨(some q43), .call (.c (.f q174 [])) [.t q42], none, 63, false⟩ <|
 mvK (gt q43) q6 <|
 endD <|
 retK) (arK eqlV (gt q33) (ct (.i .u8 6)) q45 <|
 mvK (gt q45) q44 <|
 condK (gt q44) (faK 3 (gt q7) q46 <|
 ld1K (gt q46) q47 <|
 anyK ⟨(some q48), .rd (.mkf q187) [.t q4], none, 0, false⟩ <|
 callK q186 [(gt q47), (gt q48)] q49 <|
 mvK (gt q49) q6 <|
 retK) (fin) <|
 fin) <|
 fin) <|
 faK 3 (gt q7) q50 <|
 ld1K (gt q50) q51 <|
 anyK ⟨(some q52), .rd (.mkf q188) [.t q4], none, 0, false⟩ <|
 callK q186 [(gt q51), (gt q52)] q53 <|
 notK (gt q53) q54 <|
 mvK (gt q54) q6 <|
 retK⟩
theorem ft127 : (compFn P9 Z9 127).map fastFn = some fn127 := by kernel_rfl
noncomputable def fn128 : FFn := ⟨[.t q8],
 boxK (gt q1) q5 <|
 boxK (gt q2) q6 <|
 boxK (gt q3) q7 <|
 mvK (ct (.i .i64 0)) q8 <|
 ldK 2 (gt q7) q11 <|
 callK q189 [(gt q11)] q12 <|
 notK (gt q12) q13 <|
 condK (gt q13) (mvK (gt q0) q14 <|
 mvK (gt q0) q15 <|
 nilckK (gt q15) q16 <|
 faK 1 (gt q16) q17 <|
 ld1D 4 14 (gt q17) q18 <|
 faK 1 (gt q6) q19 <|
 ld1D 6 32 (gt q19) q20 <|
 rdD 7 126 (.look false [2] (.i .i64 0) false) [(gt q18), (gt q20)] q21 <|
 faK 0 (gt q5) q22 <|
 ld1D 9 256 (gt q22) q23 <|
 faK 1 (gt q5) q24 <|
 ld1D 11 1024 (gt q24) q25 <|
 rdD 12 0 (.ld 2) [(gt q7)] q26 <|
 efD 13 ⟨(some q27), .call (.c (.f q190 [])) [.t q14, .t q21, .t q23, .t q25, .c (.i .i64 0), .t q26], none, 8191, false⟩ <|
 mvK (gt q27) q8 <|
 endD <|
 retK) (fin) <|
 mvK (gt q0) q28 <|
 nilckK (gt q28) q29 <|
 faK 2 (gt q29) q30 <|
 ld1D 3 7 (gt q30) q31 <|
 faK 0 (gt q5) q32 <|
 ld1D 5 16 (gt q32) q33 <|
 iaK 1 (gt q31) (gt q33) q34 <|
 ld1D 7 127 (gt q34) q35 <|
 nilckK (gt q35) q36 <|
 faK 0 (gt q36) q37 <|
 faK 5 (gt q37) q38 <|
 ld1D 11 2047 (gt q38) q39 <|
 faK 1 (gt q5) q40 <|
 ld1D 13 4096 (gt q40) q41 <|
 iaK 1 (gt q39) (gt q41) q42 <|
 ld1D 15 32767 (gt q42) q43 <|
 mvK (gt q43) q9 <|
 endD <|
 mvK (gt q9) q44 <|
 lensK (gt q44) q45 <|
 mvK (ct (.i .i64 0)) q46 <|
 blockK 0 (loopK (arK lssV (gt q46) (gt q45) q47 <|
 condK (gt q47) (fin) (exitK 0) <|
 blockK 1 (mvK (gt q46) q48 <|
 mvK (gt q48) q10 <|
 mvK (gt q9) q49 <|
 mvK (gt q10) q50 <|
 ldK 2 (gt q7) q51 <|
 iaK 2 (gt q49) (gt q50) q52 <|
 stK 2 (gt q52) (gt q51) <|
 fin) <|
 arK addV (gt q46) (ct (.i .i64 1)) q53 <|
 mvK (gt q53) q46 <|
 fin) <|
 fin) <|
 mvK (ct (.i .i64 0)) q8 <|
 retK⟩
theorem ft128 : (compFn P9 Z9 128).map fastFn = some fn128 := by kernel_rfl
noncomputable def fn129 : FFn := ⟨[.cell q4 2, .t q5],
 boxK (gt q1) q3 <|
 alK [(.i .u8 0), (.i .i64 0)] 2 q4 <|
 mvK (ct (.i .i64 0)) q5 <|
 mvK (gt q0) q11 <|
 nilckK (gt q11) q12 <|
 faK 3 (gt q12) q13 <|
 rdD 3 7 (.ld 1) [(gt q13)] q14 <|
 rdD 4 0 (.ld 8) [(gt q3)] q15 <|
 efD 5 ⟨(some q16), .call (.c (.f q191 [])) [.t q14, .t q15], none, 31, false⟩ <|
 mvK (gt q16) q10 <|
 extK 0 (gt q10) q17 <|
 extK 1 (gt q10) q18 <|
 extK 2 (gt q10) q19 <|
 extK 3 (gt q10) q20 <|
 alK [.sn] 1 q6 <|
 alK [(.i .u8 0), (.i .i64 0)] 2 q7 <|
 efD 13 ⟨none, .ef (.st 1) [.t q6, .t q17], none, 6399, false⟩ <|
 efD 14 ⟨none, .ef (.st 2) [.t q7, .t q18], none, 14847, false⟩ <|
 mvK (gt q19) q8 <|
 mvK (gt q20) q9 <|
 endD <|
 mvK (gt q9) q21 <|
 arK neqV (gt q21) (ct (.i .i64 0)) q22 <|
 condK (gt q22) (ldK 2 (gt q7) q23 <|
 mvK (gt q9) q24 <|
 stK 2 (gt q4) (gt q23) <|
 mvK (gt q24) q5 <|
 retK) (fin) <|
 mvK (gt q0) q25 <|
 ldK 1 (gt q6) q26 <|
 nilckK (gt q25) q27 <|
 faK 3 (gt q27) q28 <|
 stK 1 (gt q28) (gt q26) <|
 mvK (gt q0) q29 <|
 mvK (gt q8) q30 <|
 callK q192 [(gt q29), (gt q30)] q31 <|
 ldK 2 (gt q7) q32 <|
 stK 2 (gt q4) (gt q32) <|
 mvK (ct (.i .i64 0)) q5 <|
 retK⟩
theorem ft129 : (compFn P9 Z9 129).map fastFn = some fn129 := by kernel_rfl
noncomputable def fn130 : FFn := ⟨[.t q4, .cell q5 2],
 boxK (gt q0) q2 <|
 boxK (gt q1) q3 <|
 mvK (ct (.i .i64 0)) q4 <|
 alK [(.i .u8 0), (.i .i64 0)] 2 q5 <|
 blockK 0 (faK 0 (gt q2) q7 <|
 ld1K (gt q7) q8 <|
 arK eqlV (gt q8) (ct (.i .u8 2)) q9 <|
 mvK (gt q9) q6 <|
 condK (gt q6) (faK 1 (gt q2) q10 <|
 ld1D 1 1 (gt q10) q11 <|
 arK subV (ct (.i .i64 1)) (gt q11) q12 <|
 rdD 3 0 (.ld 2) [(gt q3)] q13 <|
 mvK (gt q12) q4 <|
 efD 5 ⟨none, .ef (.st 2) [.t q5, .t q13], none, 31, false⟩ <|
 endD <|
 retK) (ldK 2 (gt q2) q15 <|
 callK q189 [(gt q15)] q16 <|
 mvK (gt q16) q14 <|
 condK (gt q14) (rdD 0 0 (.ld 2) [(gt q2)] q17 <|
 mvK (ct (.i .i64 1)) q4 <|
 efD 2 ⟨none, .ef (.st 2) [.t q5, .t q17], none, 3, false⟩ <|
 endD <|
 retK) (fin) <|
 fin) <|
 fin) <|
 rK (evBuild [(.i .u8 0), (.i .i64 0)] [(0, 1), (1, 1)]) [(ct (.i .u8 5)), (ct (.i .i64 5))] q18 <|
 mvK (ct (.i .i64 1)) q4 <|
 stK 2 (gt q5) (gt q18) <|
 retK⟩
theorem ft130 : (compFn P9 Z9 130).map fastFn = some fn130 := by kernel_rfl
noncomputable def fn131 : FFn := ⟨[.cell q8 2, .t q9],
 boxK (gt q1) q5 <|
 boxK (gt q2) q6 <|
 alK [(.i .u8 0), (.i .i64 0)] 2 q8 <|
 mvK (ct (.i .i64 0)) q9 <|
 faK 0 (gt q6) q10 <|
 ld1K (gt q10) q11 <|
 blockK 0 (arK eqlV (gt q11) (ct (.i .u8 4)) q13 <|
 mvK (gt q13) q12 <|
 condK (gt q12) (faK 1 (gt q6) q14 <|
 ld1K (gt q14) q15 <|
 mvK (gt q3) q16 <|
 callK q193 [(gt q15), (gt q16)] q17 <|
 extK 0 (gt q17) q18 <|
 extK 1 (gt q17) q19 <|
 stK 2 (gt q8) (gt q18) <|
 mvK (gt q19) q9 <|
 retK) (arK eqlV (gt q11) (ct (.i .u8 6)) q21 <|
 mvK (gt q21) q20 <|
 condK (gt q20) (mvK (gt q3) q22 <|
 iaK 2 (gt q22) (ct (.i .i64 0)) q23 <|
 ldK 2 (gt q23) q24 <|
 callK q174 [(gt q24)] q25 <|
 notK (gt q25) q26 <|
 condK (gt q26) (mvK (gt q3) q27 <|
 iaK 2 (gt q27) (ct (.i .i64 1)) q28 <|
 ldK 2 (gt q28) q29 <|
 stK 2 (gt q8) (gt q29) <|
 mvK (ct (.i .i64 0)) q9 <|
 retK) (fin) <|
 mvK (gt q3) q30 <|
 iaK 2 (gt q30) (ct (.i .i64 0)) q31 <|
 ldK 2 (gt q31) q32 <|
 stK 2 (gt q8) (gt q32) <|
 mvK (ct (.i .i64 0)) q9 <|
 retK) (arK eqlV (gt q11) (ct (.i .u8 7)) q34 <|
 mvK (gt q34) q33 <|
 condK (gt q33) (mvK (gt q3) q35 <|
 iaK 2 (gt q35) (ct (.i .i64 0)) q36 <|
 ldK 2 (gt q36) q37 <|
 stK 2 (gt q8) (gt q37) <|
 mvK (ct (.i .i64 0)) q9 <|
 retK) (arK eqlV (gt q11) (ct (.i .u8 10)) q39 <|
 mvK (gt q39) q38 <|
 condK (gt q38) (mvK (gt q0) q40 <|
 mvK (gt q3) q41 <|
 iaK 2 (gt q41) (ct (.i .i64 0)) q42 <|
 ldK 2 (gt q42) q43 <|
 rK (evBuild [(.i .u8 0), (.i .u8 0), (.i .i64 0), (.i .u8 0), (.i .i64 0), (.i .u8 0), (.i .i64 0), (.i .i64 0)] [(0, 1), (1, 2)]) [(ct (.i .u8 1)), (gt q43)] q44 <|
 callK q129 [(gt q40), (gt q44)] q45 <|
 extK 0 (gt q45) q46 <|
 extK 1 (gt q45) q47 <|
 stK 2 (gt q8) (gt q46) <|
 mvK (gt q47) q9 <|
 retK) (arK eqlV (gt q11) (ct (.i .u8 12)) q49 <|
 mvK (gt q49) q48 <|
 condK (gt q48) (mvK (gt q0) q50 <|
 mvK (gt q3) q51 <|
 iaK 2 (gt q51) (ct (.i .i64 0)) q52 <|
 rdD 3 6 (.ld 2) [(gt q52)] q53 <|
 mvK (gt q3) q54 <|
 iaK 2 (gt q54) (ct (.i .i64 1)) q55 <|
 rdD 6 48 (.ld 2) [(gt q55)] q56 <|
 faK 0 (gt q5) q57 <|
 ld1D 8 128 (gt q57) q58 <|
 arK mulV (ct (.i .i64 1000)) (gt q58) q59 <|
 faK 1 (gt q5) q60 <|
 ld1D 11 1024 (gt q60) q61 <|
 arK addV (gt q59) (gt q61) q62 <|
 rK (evBuild [(.i .u8 0), (.i .u8 0), (.i .i64 0), (.i .u8 0), (.i .i64 0), (.i .u8 0), (.i .i64 0), (.i .i64 0)] [(0, 1), (1, 2), (3, 2), (7, 1)]) [(ct (.i .u8 3)), (gt q53), (gt q56), (gt q62)] q63 <|
 efD 14 ⟨(some q64), .call (.c (.f q129 [])) [.t q50, .t q63], none, 16383, false⟩ <|
 extK 0 (gt q64) q65 <|
 extK 1 (gt q64) q66 <|
 efD 17 ⟨none, .ef (.st 2) [.t q8, .t q65], none, 131071, false⟩ <|
 mvK (gt q66) q9 <|
 endD <|
 retK) (arK eqlV (gt q11) (ct (.i .u8 13)) q68 <|
 mvK (gt q68) q67 <|
 condK (gt q67) (mvK (gt q0) q69 <|
 mvK (gt q3) q70 <|
 iaK 2 (gt q70) (ct (.i .i64 0)) q71 <|
 ldK 2 (gt q71) q72 <|
 rK (evBuild [(.i .u8 0), (.i .u8 0), (.i .i64 0), (.i .u8 0), (.i .i64 0), (.i .u8 0), (.i .i64 0), (.i .i64 0)] [(0, 1), (1, 2)]) [(ct (.i .u8 4)), (gt q72)] q73 <|
 callK q129 [(gt q69), (gt q73)] q74 <|
 extK 0 (gt q74) q75 <|
 extK 1 (gt q74) q76 <|
 stK 2 (gt q8) (gt q75) <|
 mvK (gt q76) q9 <|
 retK) (arK eqlV (gt q11) (ct (.i .u8 14)) q78 <|
 mvK (gt q78) q77 <|
 condK (gt q77) (mvK (gt q3) q79 <|
 iaK 2 (gt q79) (ct (.i .i64 0)) q80 <|
 ldK 2 (gt q80) q81 <|
 callK q194 [(gt q81)] q82 <|
 stK 2 (gt q8) (gt q82) <|
 mvK (ct (.i .i64 0)) q9 <|
 retK) (fin) <|
 fin) <|
 fin) <|
 fin) <|
 fin) <|
 fin) <|
 fin) <|
 fin) <|
 rdD 0 0 (.ld 4) [(gt q6)] q83 <|
 mvK (gt q3) q84 <|
 iaK 2 (gt q84) (ct (.i .i64 0)) q85 <|
 rdD 3 6 (.ld 2) [(gt q85)] q86 <|
 efD 4 ⟨(some q87), .call (.c (.f q195 [])) [.t q83, .t q86], none, 15, false⟩ <|
 efD 5 ⟨none, .ef (.st 2) [.t q8, .t q87], none, 31, false⟩ <|
 mvK (ct (.i .i64 0)) q9 <|
 endD <|
 retK⟩
theorem ft131 : (compFn P9 Z9 131).map fastFn = some fn131 := by kernel_rfl
noncomputable def fn132 : FFn := ⟨[.t q4, .t q5],
 mvK (ct (.b false)) q4 <|
 mvK (ct (.i .i64 0)) q5 <|
 mvK (gt q0) q10 <|
 nilckK (gt q10) q11 <|
 faK 2 (gt q11) q12 <|
 ld1K (gt q12) q13 <|
 mvK (gt q1) q14 <|
 iaK 1 (gt q13) (gt q14) q15 <|
 ld1K (gt q15) q16 <|
 mvK (gt q16) q6 <|
 mvK (gt q6) q17 <|
 nilckK (gt q17) q18 <|
 faK 0 (gt q18) q19 <|
 faK 1 (gt q19) q20 <|
 ld1K (gt q20) q21 <|
 arK neqV (gt q21) (ct (.i .i64 (-1))) q22 <|
 condK (gt q22) (mvK (gt q0) q23 <|
 mvK (gt q6) q24 <|
 callK q196 [(gt q23), (gt q24)] q25 <|
 mvK (gt q25) q4 <|
 mvK (gt q0) q27 <|
 mvK (gt q6) q28 <|
 callK q197 [(gt q27), (gt q28)] q29 <|
 mvK (gt q29) q26 <|
 extK 0 (gt q26) q30 <|
 extK 1 (gt q26) q31 <|
 mvK (gt q30) q7 <|
 mvK (gt q31) q8 <|
 mvK (gt q8) q32 <|
 arK neqV (gt q32) (ct (.i .i64 0)) q33 <|
 condK (gt q33) (mvK (gt q4) q34 <|
 mvK (gt q8) q35 <|
 mvK (gt q34) q4 <|
 mvK (gt q35) q5 <|
 retK) (fin) <|
 mvK (gt q4) q36 <|
 mvK (gt q36) q37 <|
 gK q37 false q38 (mvK (gt q7) q38) <|
 pickK (gt q37) (ct (.b true)) (gt q38) q39 <|
 mvK (gt q39) q4 <|
 fin) (fin) <|
 mvK (gt q0) q40 <|
 nilckK (gt q40) q41 <|
 faK 0 (gt q41) q42 <|
 ld1D 3 7 (gt q42) q43 <|
 mvK (gt q6) q44 <|
 nilckK (gt q44) q45 <|
 faK 0 (gt q45) q46 <|
 faK 0 (gt q46) q47 <|
 ld1D 8 240 (gt q47) q48 <|
 iaK 5 (gt q43) (gt q48) q49 <|
 faK 3 (gt q49) q50 <|
 ld1D 11 2047 (gt q50) q51 <|
 lensK (gt q51) q52 <|
 arK eqlV (gt q52) (ct (.i .i64 0)) q53 <|
 mvK (gt q53) q54 <|
 gK q54 false q55 (mvK (gt q6) q55) <|
 gK q54 false q56 (nilckK (gt q55) q56) <|
 gK q54 false q57 (faK 0 (gt q56) q57) <|
 gK q54 false q58 (faK 1 (gt q57) q58) <|
 gK q54 false q59 (ld1D 19 524287 (gt q58) q59) <|
 gK q54 false q60 (arK eqlV (gt q59) (ct (.i .i64 (-1))) q60) <|
 pickK (gt q54) (ct (.b true)) (gt q60) q61 <|
 endD <|
 condK (gt q61) (mvK (gt q4) q62 <|
 mvK (gt q62) q4 <|
 mvK (ct (.i .i64 0)) q5 <|
 retK) (fin) <|
 mvK (gt q0) q64 <|
 mvK (gt q6) q65 <|
 callK q198 [(gt q64), (gt q65)] q66 <|
 mvK (gt q66) q63 <|
 extK 0 (gt q63) q67 <|
 extK 1 (gt q63) q68 <|
 mvK (gt q67) q9 <|
 mvK (gt q68) q5 <|
 mvK (gt q4) q69 <|
 mvK (gt q69) q70 <|
 gK q70 false q71 (mvK (gt q9) q71) <|
 pickK (gt q70) (ct (.b true)) (gt q71) q72 <|
 mvK (gt q5) q73 <|
 mvK (gt q72) q4 <|
 mvK (gt q73) q5 <|
 retK⟩
theorem ft132 : (compFn P9 Z9 132).map fastFn = some fn132 := by kernel_rfl
noncomputable def fn133 : FFn := ⟨[.t q2],
 mvK (ct (.i .i64 0)) q2 <|
 mvK (gt q0) q7 <|
 nilckK (gt q7) q8 <|
 faK 2 (gt q8) q9 <|
 ld1K (gt q9) q10 <|
 lensK (gt q10) q11 <|
 mvK (ct (.i .i64 0)) q12 <|
 blockK 0 (loopK (arK lssV (gt q12) (gt q11) q13 <|
 condK (gt q13) (fin) (exitK 0) <|
 blockK 1 (iaK 1 (gt q10) (gt q12) q14 <|
 ld1K (gt q14) q15 <|
 mvK (gt q15) q4 <|
 mvK (gt q0) q16 <|
 nilckK (gt q16) q17 <|
 faK 0 (gt q17) q18 <|
 ld1D 3 7 (gt q18) q19 <|
 mvK (gt q4) q20 <|
 nilckK (gt q20) q21 <|
 faK 0 (gt q21) q22 <|
 faK 0 (gt q22) q23 <|
 ld1D 8 240 (gt q23) q24 <|
 iaK 5 (gt q19) (gt q24) q25 <|
 faK 2 (gt q25) q26 <|
 ld1D 11 2047 (gt q26) q27 <|
 lensK (gt q27) q28 <|
 mvK (ct (.i .i64 0)) q29 <|
 endD <|
 blockK 2 (loopK (arK lssV (gt q29) (gt q28) q30 <|
 condK (gt q30) (fin) (exitK 2) <|
 blockK 3 (iaK 4 (gt q27) (gt q29) q31 <|
 ldK 4 (gt q31) q32 <|
 alK [(.i .u8 0), (.s []), (.i .i64 0), .sn] 4 q6 <|
 stK 4 (gt q6) (gt q32) <|
 faK 0 (gt q6) q33 <|
 ld1K (gt q33) q34 <|
 arK eqlV (gt q34) (ct (.i .u8 6)) q35 <|
 mvK (gt q35) q36 <|
 gK q36 true q37 (mvK (gt q4) q37) <|
 gK q36 true q38 (faK 3 (gt q6) q38) <|
 gK q36 true q39 (ld1K (gt q38) q39) <|
 gK q36 true q40 (iaK 2 (gt q39) (ct (.i .i64 0)) q40) <|
 gK q36 true q41 (ldK 2 (gt q40) q41) <|
 gK q36 true q42 (callK q92 [(gt q37), (gt q41)] q42) <|
 gK q36 true q43 (callK q174 [(gt q42)] q43) <|
 pickK (gt q36) (gt q43) (ct (.b false)) q44 <|
 mvK (gt q44) q45 <|
 gK q45 true q46 (mvK (gt q4) q46) <|
 gK q45 true q47 (faK 3 (gt q6) q47) <|
 gK q45 true q48 (ld1K (gt q47) q48) <|
 gK q45 true q49 (iaK 2 (gt q48) (ct (.i .i64 1)) q49) <|
 gK q45 true q50 (ldK 2 (gt q49) q50) <|
 gK q45 true q51 (callK q92 [(gt q46), (gt q50)] q51) <|
 gK q45 true q52 (callK q174 [(gt q51)] q52) <|
 pickK (gt q45) (gt q52) (ct (.b false)) q53 <|
 condK (gt q53) (mvK (ct (.i .i64 6)) q2 <|
 retK) (fin) <|
 fin) <|
 arK addV (gt q29) (ct (.i .i64 1)) q54 <|
 mvK (gt q54) q29 <|
 fin) <|
 fin) <|
 fin) <|
 arK addV (gt q12) (ct (.i .i64 1)) q55 <|
 mvK (gt q55) q12 <|
 fin) <|
 fin) <|
 mvK (ct (.i .i64 0)) q2 <|
 retK⟩
theorem ft133 : (compFn P9 Z9 133).map fastFn = some fn133 := by kernel_rfl
noncomputable def fn153 : FFn := ⟨[.t q2],
 mvK (ct (.i .i64 0)) q2 <|
 mvK (ct (.i .i64 0)) q3 <|
 mvK (gt q0) q6 <|
 lensK (gt q6) q7 <|
 mvK (ct (.i .i64 0)) q8 <|
 blockK 0 (loopK (arK lssV (gt q8) (gt q7) q9 <|
 condK (gt q9) (fin) (exitK 0) <|
 blockK 1 (iaK 1 (gt q6) (gt q8) q10 <|
 ld1K (gt q10) q11 <|
 mvK (gt q11) q5 <|
 mvK (gt q5) q12 <|
 mvK (gt q3) q13 <|
 arK neqV (gt q12) (gt q13) q14 <|
 condK (gt q14) (mvK (gt q5) q15 <|
 mvK (gt q15) q2 <|
 retK) (fin) <|
 fin) <|
 arK addV (gt q8) (ct (.i .i64 1)) q16 <|
 mvK (gt q16) q8 <|
 fin) <|
 fin) <|
 mvK (gt q3) q17 <|
 mvK (gt q17) q2 <|
 retK⟩
theorem ft153 : (compFn P9 Z9 153).map fastFn = some fn153 := by kernel_rfl
noncomputable def fn154 : FFn := ⟨[.t q6],
 mvK (ct (.i .i64 0)) q6 <|
 mvK (gt q0) q11 <|
 lensK (gt q11) q12 <|
 mvK (ct (.i .i64 0)) q13 <|
 blockK 0 (loopK (arK lssV (gt q13) (gt q12) q14 <|
 condK (gt q14) (fin) (exitK 0) <|
 blockK 1 (mvK (gt q13) q15 <|
 iaK 2 (gt q11) (gt q13) q16 <|
 ldK 2 (gt q16) q17 <|
 alK [(.i .i64 0), (.i .i64 0)] 2 q8 <|
 mvK (gt q15) q7 <|
 stK 2 (gt q8) (gt q17) <|
 mvK (gt q7) q18 <|
 mvK (gt q1) q19 <|
 lensK (gt q19) q20 <|
 arK geqV (gt q18) (gt q20) q21 <|
 condK (gt q21) (mvK (ct (.i .i64 1)) q6 <|
 retK) (fin) <|
 mvK (gt q1) q22 <|
 mvK (gt q7) q23 <|
 iaK 2 (gt q22) (gt q23) q24 <|
 ldK 2 (gt q24) q25 <|
 alK [(.i .i64 0), (.i .i64 0)] 2 q9 <|
 stK 2 (gt q9) (gt q25) <|
 mvK (gt q2) q26 <|
 ldK 2 (gt q8) q27 <|
 ldK 2 (gt q9) q28 <|
 dynK (gt q26) [(gt q27), (gt q28)] q29 <|
 mvK (gt q29) q10 <|
 mvK (gt q10) q30 <|
 arK neqV (gt q30) (ct (.i .i64 0)) q31 <|
 condK (gt q31) (mvK (gt q10) q32 <|
 mvK (gt q32) q6 <|
 retK) (fin) <|
 fin) <|
 arK addV (gt q13) (ct (.i .i64 1)) q33 <|
 mvK (gt q33) q13 <|
 fin) <|
 fin) <|
 mvK (gt q0) q34 <|
 lensK (gt q34) q35 <|
 mvK (gt q1) q36 <|
 lensK (gt q36) q37 <|
 arK lssV (gt q35) (gt q37) q38 <|
 condK (gt q38) (mvK (ct (.i .i64 (-1))) q6 <|
 retK) (fin) <|
 mvK (ct (.i .i64 0)) q6 <|
 retK⟩
theorem ft154 : (compFn P9 Z9 154).map fastFn = some fn154 := by kernel_rfl
noncomputable def fn155 : FFn := ⟨[.t q4],
 boxK (gt q0) q2 <|
 boxK (gt q1) q3 <|
 mvK (ct (.i .i64 0)) q4 <|
 faK 0 (gt q2) q5 <|
 ld1D 1 1 (gt q5) q6 <|
 faK 0 (gt q3) q7 <|
 ld1D 3 4 (gt q7) q8 <|
 efD 4 ⟨(some q9), .call (.c (.f q156 [])) [.t q6, .t q8], none, 15, false⟩ <|
 faK 1 (gt q2) q10 <|
 ld1D 6 32 (gt q10) q11 <|
 faK 1 (gt q3) q12 <|
 ld1D 8 128 (gt q12) q13 <|
 efD 9 ⟨(some q14), .call (.c (.f q156 [])) [.t q11, .t q13], none, 511, false⟩ <|
 aK (alRows 2 1) [(gt q9), (gt q14)] q15 <|
 efD 11 ⟨(some q16), .call (.c (.f q153 [])) [.t q15], none, 2047, false⟩ <|
 mvK (gt q16) q4 <|
 endD <|
 retK⟩
theorem ft155 : (compFn P9 Z9 155).map fastFn = some fn155 := by kernel_rfl
noncomputable def fn156 : FFn := ⟨[.t q4],
 mvK (ct (.i .i64 0)) q4 <|
 mvK (gt q0) q7 <|
 callK q219 [(gt q7)] q8 <|
 mvK (gt q8) q5 <|
 mvK (gt q1) q9 <|
 callK q219 [(gt q9)] q10 <|
 mvK (gt q10) q6 <|
 mvK (gt q5) q11 <|
 condK (gt q11) (mvK (gt q6) q12 <|
 condK (gt q12) (mvK (ct (.i .i64 0)) q4 <|
 retK) (fin) <|
 mvK (ct (.i .i64 (-1))) q4 <|
 retK) (fin) <|
 mvK (gt q6) q13 <|
 condK (gt q13) (mvK (ct (.i .i64 1)) q4 <|
 retK) (fin) <|
 mvK (gt q0) q14 <|
 mvK (gt q1) q15 <|
 arK lssV (gt q14) (gt q15) q16 <|
 condK (gt q16) (mvK (ct (.i .i64 (-1))) q4 <|
 retK) (fin) <|
 mvK (gt q0) q17 <|
 mvK (gt q1) q18 <|
 arK gtrV (gt q17) (gt q18) q19 <|
 condK (gt q19) (mvK (ct (.i .i64 1)) q4 <|
 retK) (fin) <|
 mvK (ct (.i .i64 0)) q4 <|
 retK⟩
theorem ft156 : (compFn P9 Z9 156).map fastFn = some fn156 := by kernel_rfl
noncomputable def fn157 : FFn := ⟨[],
 mvK (gt q0) q4 <|
 lensK (gt q4) q5 <|
 arK subV (gt q5) (ct (.i .i64 1)) q6 <|
 mvK (ct (.i .i64 0)) q2 <|
 mvK (gt q6) q3 <|
 blockK 0 (loopK (mvK (gt q2) q7 <|
 mvK (gt q3) q8 <|
 arK lssV (gt q7) (gt q8) q9 <|
 condK (gt q9) (fin) (exitK 0) <|
 blockK 1 (mvK (gt q0) q14 <|
 mvK (gt q2) q15 <|
 mvK (gt q0) q16 <|
 mvK (gt q3) q17 <|
 mvK (gt q0) q18 <|
 mvK (gt q3) q19 <|
 iaK 2 (gt q18) (gt q19) q20 <|
 rdD 7 112 (.ld 2) [(gt q20)] q21 <|
 mvK (gt q0) q22 <|
 mvK (gt q2) q23 <|
 iaK 2 (gt q22) (gt q23) q24 <|
 rdD 11 1792 (.ld 2) [(gt q24)] q25 <|
 iaK 2 (gt q14) (gt q15) q26 <|
 efD 13 ⟨none, .ef (.st 2) [.t q26, .t q21], none, 8179, false⟩ <|
 iaK 2 (gt q16) (gt q17) q27 <|
 efD 15 ⟨none, .ef (.st 2) [.t q27, .t q25], none, 32767, false⟩ <|
 endD <|
 fin) <|
 mvK (gt q2) q10 <|
 arK addV (gt q10) (ct (.i .i64 1)) q11 <|
 mvK (gt q3) q12 <|
 arK subV (gt q12) (ct (.i .i64 1)) q13 <|
 mvK (gt q11) q2 <|
 mvK (gt q13) q3 <|
 fin) <|
 fin) <|
 fin⟩
theorem ft157 : (compFn P9 Z9 157).map fastFn = some fn157 := by kernel_rfl
noncomputable def fn158 : FFn := ⟨[.t q2, .t q3],
 boxK (gt q0) q1 <|
 mvK (ct .pn) q2 <|
 mvK (ct (.i .i64 0)) q3 <|
 rK (evBuild [.sn, (.i .i64 0), .sn] []) [] q7 <|
 boxK (gt q7) q8 <|
 mvK (gt q8) q4 <|
 faK 0 (gt q1) q9 <|
 ld1K (gt q9) q10 <|
 lensK (gt q10) q11 <|
 arK gtrV (gt q11) (ct (.i .i64 400)) q12 <|
 condK (gt q12) (mvK (ct .pn) q2 <|
 mvK (ct (.i .i64 4)) q3 <|
 retK) (fin) <|
 faK 0 (gt q1) q13 <|
 ld1K (gt q13) q14 <|
 lensK (gt q14) q15 <|
 mvK (ct (.i .i64 0)) q16 <|
 blockK 0 (loopK (arK lssV (gt q16) (gt q15) q17 <|
 condK (gt q17) (fin) (exitK 0) <|
 blockK 1 (iaK 2 (gt q14) (gt q16) q18 <|
 ldK 2 (gt q18) q19 <|
 alK [.sn, .sn] 2 q6 <|
 stK 2 (gt q6) (gt q19) <|
 mvK (gt q4) q20 <|
 nilckK (gt q20) q21 <|
 faK 1 (gt q21) q22 <|
 ld1D 3 7 (gt q22) q23 <|
 faK 1 (gt q6) q24 <|
 ld1D 5 16 (gt q24) q25 <|
 lensK (gt q25) q26 <|
 arK addV (gt q23) (gt q26) q27 <|
 nilckK (gt q20) q28 <|
 faK 1 (gt q28) q29 <|
 efD 10 ⟨none, .ef (.st 1) [.t q29, .t q27], none, 1023, false⟩ <|
 endD <|
 mvK (gt q4) q30 <|
 nilckK (gt q30) q31 <|
 faK 1 (gt q31) q32 <|
 ld1K (gt q32) q33 <|
 arK gtrV (gt q33) (ct (.i .i64 6000)) q34 <|
 mvK (gt q34) q35 <|
 gK q35 false q36 (ldK 2 (gt q6) q36) <|
 gK q35 false q37 (faK 0 (gt q1) q37) <|
 gK q35 false q38 (ld1K (gt q37) q38) <|
 gK q35 false q39 (lensK (gt q38) q39) <|
 gK q35 false q40 (callK q220 [(gt q36), (gt q39)] q40) <|
 gK q35 false q41 (notK (gt q40) q41) <|
 pickK (gt q35) (ct (.b true)) (gt q41) q42 <|
 condK (gt q42) (mvK (ct .pn) q2 <|
 mvK (ct (.i .i64 4)) q3 <|
 retK) (fin) <|
 mvK (gt q4) q43 <|
 mvK (gt q4) q44 <|
 nilckK (gt q44) q45 <|
 faK 0 (gt q45) q46 <|
 ld1D 4 14 (gt q46) q47 <|
 faK 0 (gt q6) q48 <|
 ld1D 6 32 (gt q48) q49 <|
 efD 7 ⟨(some q50), .call (.c (.f q221 [])) [.t q49], none, 96, false⟩ <|
 faK 1 (gt q6) q51 <|
 ld1D 9 256 (gt q51) q52 <|
 efD 10 ⟨(some q53), .call (.c (.f q222 [])) [.t q52], none, 992, false⟩ <|
 rK (evBuild [.sn, .sn] [(0, 1), (1, 1)]) [(gt q50), (gt q53)] q54 <|
 aK (alRows 1 2) [(gt q54)] q55 <|
 efD 13 ⟨(some q56), .ef (.app 2 48) [.t q47, .t q55], none, 8190, false⟩ <|
 nilckK (gt q43) q57 <|
 faK 0 (gt q57) q58 <|
 efD 16 ⟨none, .ef (.st 1) [.t q58, .t q56], none, 65535, false⟩ <|
 endD <|
 fin) <|
 arK addV (gt q16) (ct (.i .i64 1)) q59 <|
 mvK (gt q59) q16 <|
 fin) <|
 fin) <|
 mvK (gt q4) q60 <|
 mvK (gt q60) q2 <|
 mvK (ct (.i .i64 0)) q3 <|
 retK⟩
theorem ft158 : (compFn P9 Z9 158).map fastFn = some fn158 := by kernel_rfl
noncomputable def fn159 : FFn := ⟨[.t q4],
 mvK (ct (.b false)) q4 <|
 mvK (gt q0) q5 <|
 mvK (gt q1) q6 <|
 callK q223 [(gt q5), (gt q6)] q7 <|
 arK geqV (gt q7) (ct (.i .i64 0)) q8 <|
 mvK (gt q8) q4 <|
 retK⟩
theorem ft159 : (compFn P9 Z9 159).map fastFn = some fn159 := by kernel_rfl
noncomputable def fn160 : FFn := ⟨[.t q3],
 boxK (gt q0) q2 <|
 mvK (ct (.b false)) q3 <|
 rdD 0 0 (.ld 2) [(gt q2)] q4 <|
 ld1D 1 0 (gt q1) q5 <|
 nilckK (gt q5) q6 <|
 faK 0 (gt q6) q7 <|
 ld1D 4 14 (gt q7) q8 <|
 lensK (gt q8) q9 <|
 efD 6 ⟨(some q10), .call (.c (.f q161 [])) [.t q4, .t q9], none, 63, false⟩ <|
 notK (gt q10) q11 <|
 mvK (gt q11) q3 <|
 endD <|
 retK⟩
theorem ft160 : (compFn P9 Z9 160).map fastFn = some fn160 := by kernel_rfl
noncomputable def fn161 : FFn := ⟨[.t q4],
 boxK (gt q0) q2 <|
 mvK (ct (.b false)) q4 <|
 faK 0 (gt q2) q5 <|
 ld1K (gt q5) q6 <|
 blockK 0 (arK eqlV (gt q6) (ct (.i .u8 0)) q8 <|
 mvK (gt q8) q7 <|
 condK (gt q7) (fin) (arK eqlV (gt q6) (ct (.i .u8 3)) q9 <|
 mvK (gt q9) q7 <|
 fin) <|
 condK (gt q7) (faK 1 (gt q2) q10 <|
 ld1K (gt q10) q11 <|
 arK eqlV (gt q11) (ct (.i .i64 0)) q12 <|
 mvK (gt q12) q4 <|
 retK) (arK eqlV (gt q6) (ct (.i .u8 1)) q14 <|
 mvK (gt q14) q13 <|
 condK (gt q13) (faK 1 (gt q2) q15 <|
 ld1K (gt q15) q16 <|
 callK q180 [(gt q16), (ct (.i .i64 (-1000000000))), (ct (.i .i64 1000000000))] q17 <|
 mvK (gt q17) q4 <|
 retK) (arK eqlV (gt q6) (ct (.i .u8 2)) q19 <|
 mvK (gt q19) q18 <|
 condK (gt q18) (faK 1 (gt q2) q20 <|
 ld1K (gt q20) q21 <|
 callK q180 [(gt q21), (ct (.i .i64 0)), (ct (.i .i64 1))] q22 <|
 mvK (gt q22) q4 <|
 retK) (arK eqlV (gt q6) (ct (.i .u8 4)) q24 <|
 mvK (gt q24) q23 <|
 condK (gt q23) (faK 1 (gt q2) q25 <|
 ld1K (gt q25) q26 <|
 mvK (gt q1) q27 <|
 arK subV (gt q27) (ct (.i .i64 1)) q28 <|
 callK q180 [(gt q26), (ct (.i .i64 0)), (gt q28)] q29 <|
 mvK (gt q29) q4 <|
 retK) (arK eqlV (gt q6) (ct (.i .u8 5)) q31 <|
 mvK (gt q31) q30 <|
 condK (gt q30) (faK 1 (gt q2) q32 <|
 ld1K (gt q32) q33 <|
 callK q180 [(gt q33), (ct (.i .i64 1)), (ct (.i .i64 5))] q34 <|
 mvK (gt q34) q4 <|
 retK) (fin) <|
 fin) <|
 fin) <|
 fin) <|
 fin) <|
 fin) <|
 mvK (ct (.b false)) q4 <|
 retK⟩
theorem ft161 : (compFn P9 Z9 161).map fastFn = some fn161 := by kernel_rfl
noncomputable def fn162 : FFn := ⟨[.cell q4 2],
 alK [.sn, .sn] 2 q4 <|
 anyK ⟨(some q9), .al .mkm [], none, 0, false⟩ <|
 rK (evBuild [.mn, .sn] [(0, 1)]) [(gt q9)] q10 <|
 boxK (gt q10) q11 <|
 mvK (gt q11) q5 <|
 mvK (gt q5) q12 <|
 mvK (gt q1) q13 <|
 callK q224 [(gt q12), (gt q13)] q14 <|
 rK (evBuild [.sn, .sn] [(0, 1)]) [(gt q14)] q15 <|
 alK [.sn, .sn] 2 q6 <|
 stK 2 (gt q6) (gt q15) <|
 mvK (ct (.i .i64 0)) q7 <|
 blockK 0 (loopK (mvK (gt q7) q16 <|
 mvK (gt q5) q17 <|
 nilckK (gt q17) q18 <|
 faK 1 (gt q18) q19 <|
 ld1K (gt q19) q20 <|
 lensK (gt q20) q21 <|
 arK lssV (gt q16) (gt q21) q22 <|
 condK (gt q22) (fin) (exitK 0) <|
 blockK 1 (mvK (gt q5) q25 <|
 mvK (gt q0) q26 <|
 nilckK (gt q26) q27 <|
 faK 0 (gt q27) q28 <|
 ld1D 4 14 (gt q28) q29 <|
 mvK (gt q5) q30 <|
 nilckK (gt q30) q31 <|
 faK 1 (gt q31) q32 <|
 ld1D 8 224 (gt q32) q33 <|
 mvK (gt q7) q34 <|
 iaK 1 (gt q33) (gt q34) q35 <|
 ld1D 11 2016 (gt q35) q36 <|
 iaK 2 (gt q29) (gt q36) q37 <|
 faK 0 (gt q37) q38 <|
 ld1D 14 16382 (gt q38) q39 <|
 efD 15 ⟨(some q40), .call (.c (.f q224 [])) [.t q25, .t q39], none, 32767, false⟩ <|
 mvK (gt q40) q8 <|
 endD <|
 faK 1 (gt q6) q41 <|
 ld1K (gt q41) q42 <|
 mvK (gt q8) q43 <|
 aK (alRows 1 1) [(gt q43)] q44 <|
 eK (efApp 1 24) [(gt q42), (gt q44)] q45 <|
 faK 1 (gt q6) q46 <|
 stK 1 (gt q46) (gt q45) <|
 fin) <|
 mvK (gt q7) q23 <|
 arK addV (gt q23) (ct (.i .i64 1)) q24 <|
 mvK (gt q24) q7 <|
 fin) <|
 fin) <|
 ldK 2 (gt q6) q47 <|
 stK 2 (gt q4) (gt q47) <|
 retK⟩
theorem ft162 : (compFn P9 Z9 162).map fastFn = some fn162 := by kernel_rfl
noncomputable def fn167 : FFn := ⟨[.t q2],
 mvK (ct .pn) q2 <|
 mvK (gt q0) q8 <|
 anyK ⟨(some q9), .al .mkm [], none, 0, false⟩ <|
 rK (evBuild [.sn, .mn] [(0, 1), (1, 1)]) [(gt q8), (gt q9)] q10 <|
 boxK (gt q10) q11 <|
 mvK (gt q11) q3 <|
 mvK (gt q0) q12 <|
 lensK (gt q12) q13 <|
 mvK (ct (.i .i64 0)) q14 <|
 blockK 0 (loopK (arK lssV (gt q14) (gt q13) q15 <|
 condK (gt q15) (fin) (exitK 0) <|
 blockK 1 (mvK (gt q14) q16 <|
 iaK 5 (gt q12) (gt q14) q17 <|
 ldK 5 (gt q17) q18 <|
 alK [(.s []), (.i .i64 0), .sn, .sn, .sn] 5 q5 <|
 mvK (gt q16) q4 <|
 stK 5 (gt q5) (gt q18) <|
 mvK (gt q3) q20 <|
 nilckK (gt q20) q21 <|
 faK 1 (gt q21) q22 <|
 ld1D 3 7 (gt q22) q23 <|
 faK 0 (gt q5) q24 <|
 ld1D 5 16 (gt q24) q25 <|
 rdD 6 63 (.look false [2] (.i .i64 0) true) [(gt q23), (gt q25)] q26 <|
 mvK (gt q26) q19 <|
 extK 0 (gt q19) q27 <|
 extK 1 (gt q19) q28 <|
 mvK (gt q27) q6 <|
 mvK (gt q28) q7 <|
 endD <|
 mvK (gt q7) q29 <|
 notK (gt q29) q30 <|
 condK (gt q30) (mvK (gt q3) q31 <|
 nilckK (gt q31) q32 <|
 faK 1 (gt q32) q33 <|
 ld1D 3 7 (gt q33) q34 <|
 faK 0 (gt q5) q35 <|
 ld1D 5 16 (gt q35) q36 <|
 mvK (gt q4) q37 <|
 efD 7 ⟨none, .ef (.upd false [2]) [.t q34, .t q36, .t q37], none, 127, false⟩ <|
 endD <|
 fin) (fin) <|
 fin) <|
 arK addV (gt q14) (ct (.i .i64 1)) q38 <|
 mvK (gt q38) q14 <|
 fin) <|
 fin) <|
 mvK (gt q3) q39 <|
 mvK (gt q39) q2 <|
 retK⟩
theorem ft167 : (compFn P9 Z9 167).map fastFn = some fn167 := by kernel_rfl
noncomputable def fn168 : FFn := ⟨[.t q2],
 boxK (gt q0) q1 <|
 mvK (ct (.i .i64 0)) q2 <|
 mvK (ct (.i .i64 0)) q3 <|
 mvK (ct (.b false)) q4 <|
 ld1K (gt q1) q9 <|
 nilckK (gt q9) q10 <|
 faK 0 (gt q10) q11 <|
 ld1K (gt q11) q12 <|
 lensK (gt q12) q13 <|
 mvK (ct (.i .i64 0)) q14 <|
 blockK 0 (loopK (arK lssV (gt q14) (gt q13) q15 <|
 condK (gt q15) (fin) (exitK 0) <|
 blockK 1 (iaK 5 (gt q12) (gt q14) q16 <|
 ldK 5 (gt q16) q17 <|
 alK [(.s []), (.i .i64 0), .sn, .sn, .sn] 5 q6 <|
 stK 5 (gt q6) (gt q17) <|
 mvK (gt q3) q18 <|
 faK 2 (gt q6) q19 <|
 ld1K (gt q19) q20 <|
 lensK (gt q20) q21 <|
 arK addV (gt q18) (gt q21) q22 <|
 mvK (gt q22) q3 <|
 mvK (gt q4) q23 <|
 mvK (gt q23) q24 <|
 gK q24 false q25 (faK 1 (gt q6) q25) <|
 gK q24 false q26 (ld1K (gt q25) q26) <|
 gK q24 false q27 (faK 3 (gt q6) q27) <|
 gK q24 false q28 (ld1K (gt q27) q28) <|
 gK q24 false q29 (lensK (gt q28) q29) <|
 gK q24 false q30 (faK 4 (gt q6) q30) <|
 gK q24 false q31 (ld1K (gt q30) q31) <|
 gK q24 false q32 (lensK (gt q31) q32) <|
 gK q24 false q33 (anyK ⟨(some q33), .rd .max [.t q26, .t q29, .t q32], (some (q24, false)), 0, false⟩) <|
 gK q24 false q34 (arK gtrV (gt q33) (ct (.i .i64 12)) q34) <|
 pickK (gt q24) (ct (.b true)) (gt q34) q35 <|
 mvK (gt q35) q4 <|
 fin) <|
 arK addV (gt q14) (ct (.i .i64 1)) q36 <|
 mvK (gt q36) q14 <|
 fin) <|
 fin) <|
 ld1K (gt q1) q38 <|
 nilckK (gt q38) q39 <|
 faK 1 (gt q39) q40 <|
 ld1K (gt q40) q41 <|
 hK (evLook false [2] (.i .i64 0) true) [(gt q41), (ct (.s [109, 97, 105, 110]))] q42 <|
 mvK (gt q42) q37 <|
 extK 0 (gt q37) q43 <|
 extK 1 (gt q37) q44 <|
 mvK (gt q43) q7 <|
 mvK (gt q44) q8 <|
 blockK 2 (ld1K (gt q1) q46 <|
 nilckK (gt q46) q47 <|
 faK 0 (gt q47) q48 <|
 ld1K (gt q48) q49 <|
 lensK (gt q49) q50 <|
 arK gtrV (gt q50) (ct (.i .i64 60)) q51 <|
 mvK (gt q51) q52 <|
 gK q52 false q53 (mvK (gt q3) q53) <|
 gK q52 false q54 (arK gtrV (gt q53) (ct (.i .i64 400)) q54) <|
 pickK (gt q52) (ct (.b true)) (gt q54) q55 <|
 mvK (gt q55) q56 <|
 gK q56 false q57 (mvK (gt q4) q57) <|
 pickK (gt q56) (ct (.b true)) (gt q57) q58 <|
 mvK (gt q58) q45 <|
 condK (gt q45) (mvK (ct (.i .i64 5)) q2 <|
 retK) (ld1K (gt q1) q60 <|
 nilckK (gt q60) q61 <|
 faK 0 (gt q61) q62 <|
 ld1K (gt q62) q63 <|
 anyK ⟨(some q64), .rd (.mkf q232) [.t q1], none, 0, false⟩ <|
 callK q231 [(gt q63), (gt q64)] q65 <|
 mvK (gt q65) q59 <|
 condK (gt q59) (mvK (ct (.i .i64 4)) q2 <|
 retK) (ld1D 0 0 (gt q1) q67 <|
 nilckK (gt q67) q68 <|
 faK 1 (gt q68) q69 <|
 ld1D 3 7 (gt q69) q70 <|
 rdD 4 15 .lenm [(gt q70)] q71 <|
 ld1D 5 0 (gt q1) q72 <|
 nilckK (gt q72) q73 <|
 faK 0 (gt q73) q74 <|
 ld1D 8 224 (gt q74) q75 <|
 lensK (gt q75) q76 <|
 arK lssV (gt q71) (gt q76) q77 <|
 mvK (gt q77) q66 <|
 endD <|
 condK (gt q66) (mvK (ct (.i .i64 6)) q2 <|
 retK) (mvK (gt q8) q79 <|
 notK (gt q79) q80 <|
 mvK (gt q80) q81 <|
 gK q81 false q82 (ld1K (gt q1) q82) <|
 gK q81 false q83 (nilckK (gt q82) q83) <|
 gK q81 false q84 (faK 0 (gt q83) q84) <|
 gK q81 false q85 (ld1K (gt q84) q85) <|
 gK q81 false q86 (mvK (gt q7) q86) <|
 gK q81 false q87 (iaK 5 (gt q85) (gt q86) q87) <|
 gK q81 false q88 (ldK 5 (gt q87) q88) <|
 gK q81 false q89 (callK q234 [(gt q88)] q89) <|
 pickK (gt q81) (ct (.b true)) (gt q89) q90 <|
 mvK (gt q90) q78 <|
 condK (gt q78) (mvK (ct (.i .i64 9)) q2 <|
 retK) (fin) <|
 fin) <|
 fin) <|
 fin) <|
 fin) <|
 mvK (ct (.i .i64 0)) q2 <|
 retK⟩
theorem ft168 : (compFn P9 Z9 168).map fastFn = some fn168 := by kernel_rfl
noncomputable def fn174 : FFn := ⟨[.t q2],
 boxK (gt q0) q1 <|
 mvK (ct (.b false)) q2 <|
 faK 0 (gt q1) q3 <|
 ld1K (gt q3) q4 <|
 arK neqV (gt q4) (ct (.i .u8 0)) q5 <|
 mvK (gt q5) q2 <|
 retK⟩
theorem ft174 : (compFn P9 Z9 174).map fastFn = some fn174 := by kernel_rfl
noncomputable def fn175 : FFn := ⟨[],
 mvK (gt q0) q5 <|
 lensK (gt q5) q6 <|
 mvK (gt q6) q4 <|
 mvK (gt q0) q7 <|
 mvK (gt q4) q8 <|
 mvK (gt q4) q9 <|
 cviK .u64 (gt q9) q10 <|
 callK q238 [(gt q10)] q11 <|
 mvK (gt q1) q12 <|
 callK q237 [(gt q7), (ct (.i .i64 0)), (gt q8), (gt q11), (gt q12)] q13 <|
 fin⟩
theorem ft175 : (compFn P9 Z9 175).map fastFn = some fn175 := by kernel_rfl
noncomputable def fn176 : FFn := ⟨[.t q4],
 mvK (ct (.b false)) q4 <|
 mvK (gt q0) q5 <|
 mvK (gt q1) q6 <|
 callK q239 [(gt q5), (gt q6)] q7 <|
 arK geqV (gt q7) (ct (.i .i64 0)) q8 <|
 mvK (gt q8) q4 <|
 retK⟩
theorem ft176 : (compFn P9 Z9 176).map fastFn = some fn176 := by kernel_rfl
noncomputable def fn177 : FFn := ⟨[.t q2],
 mvK (ct (.b false)) q2 <|
 mvK (gt q0) q3 <|
 lensK (gt q3) q4 <|
 arK gtrV (gt q4) (ct (.i .i64 40)) q5 <|
 mvK (gt q5) q2 <|
 retK⟩
theorem ft177 : (compFn P9 Z9 177).map fastFn = some fn177 := by kernel_rfl
noncomputable def fn178 : FFn := ⟨[.t q2],
 mvK (ct .sn) q2 <|
 mvK (ct (.i .i64 0)) q3 <|
 mvK (gt q0) q9 <|
 lensK (gt q9) q10 <|
 mvK (ct (.i .i64 0)) q11 <|
 blockK 0 (loopK (arK lssV (gt q11) (gt q10) q12 <|
 condK (gt q12) (fin) (exitK 0) <|
 blockK 1 (iaK 1 (gt q9) (gt q11) q13 <|
 ld1K (gt q13) q14 <|
 mvK (gt q14) q5 <|
 mvK (gt q3) q15 <|
 mvK (gt q5) q16 <|
 lensK (gt q16) q17 <|
 arK addV (gt q15) (gt q17) q18 <|
 mvK (gt q18) q3 <|
 mvK (gt q3) q19 <|
 arK lssV (gt q19) (ct (.i .i64 0)) q20 <|
 condK (gt q20) (anyK ⟨(some q21), .rd (.mki 9) [.c (.s [108, 101, 110, 32, 111, 117, 116, 32, 111, 102, 32, 114, 97, 110, 103, 101])], none, 0, false⟩ <|
 anyK ⟨none, .bad, none, 0, false⟩ <|
 fin) (fin) <|
 fin) <|
 arK addV (gt q11) (ct (.i .i64 1)) q22 <|
 mvK (gt q22) q11 <|
 fin) <|
 fin) <|
 mvK (gt q3) q23 <|
 callK q240 [(ct .sn), (gt q23)] q24 <|
 mvK (gt q24) q6 <|
 mvK (gt q0) q25 <|
 lensK (gt q25) q26 <|
 mvK (ct (.i .i64 0)) q27 <|
 blockK 2 (loopK (arK lssV (gt q27) (gt q26) q28 <|
 condK (gt q28) (fin) (exitK 2) <|
 blockK 3 (iaK 1 (gt q25) (gt q27) q29 <|
 ld1K (gt q29) q30 <|
 mvK (gt q30) q8 <|
 mvK (gt q6) q31 <|
 mvK (gt q8) q32 <|
 eK (efApp 1 8) [(gt q31), (gt q32)] q33 <|
 mvK (gt q33) q6 <|
 fin) <|
 arK addV (gt q27) (ct (.i .i64 1)) q34 <|
 mvK (gt q34) q27 <|
 fin) <|
 fin) <|
 mvK (gt q6) q35 <|
 mvK (gt q35) q2 <|
 retK⟩
theorem ft178 : (compFn P9 Z9 178).map fastFn = some fn178 := by kernel_rfl
noncomputable def fn179 : FFn := ⟨[.t q2],
 mvK (ct (.b false)) q2 <|
 mvK (gt q0) q3 <|
 callK q180 [(gt q3), (ct (.i .i64 (-1000000000))), (ct (.i .i64 1000000000))] q4 <|
 notK (gt q4) q5 <|
 mvK (gt q5) q2 <|
 retK⟩
theorem ft179 : (compFn P9 Z9 179).map fastFn = some fn179 := by kernel_rfl
noncomputable def fn180 : FFn := ⟨[.t q6],
 mvK (ct (.b false)) q6 <|
 mvK (gt q0) q7 <|
 mvK (gt q1) q8 <|
 arK geqV (gt q7) (gt q8) q9 <|
 mvK (gt q9) q10 <|
 gK q10 true q11 (mvK (gt q0) q11) <|
 gK q10 true q12 (mvK (gt q2) q12) <|
 gK q10 true q13 (arK leqV (gt q11) (gt q12) q13) <|
 pickK (gt q10) (gt q13) (ct (.b false)) q14 <|
 mvK (gt q14) q6 <|
 retK⟩
theorem ft180 : (compFn P9 Z9 180).map fastFn = some fn180 := by kernel_rfl
noncomputable def fn181 : FFn := ⟨[.cell q0 2],
 alK [(.i .u8 0), (.i .i64 0)] 2 q0 <|
 rK (evBuild [(.i .u8 0), (.i .i64 0)] [(0, 1)]) [(ct (.i .u8 0))] q1 <|
 stK 2 (gt q0) (gt q1) <|
 retK⟩
theorem ft181 : (compFn P9 Z9 181).map fastFn = some fn181 := by kernel_rfl
noncomputable def fn182 : FFn := ⟨[.cell q0 2],
 alK [(.i .u8 0), (.i .i64 0)] 2 q0 <|
 rK (evBuild [(.i .u8 0), (.i .i64 0)] [(0, 1)]) [(ct (.i .u8 3))] q1 <|
 stK 2 (gt q0) (gt q1) <|
 retK⟩
theorem ft182 : (compFn P9 Z9 182).map fastFn = some fn182 := by kernel_rfl
noncomputable def fn183 : FFn := ⟨[.cell q4 2],
 alK [(.i .u8 0), (.i .i64 0)] 2 q4 <|
 mvK (gt q0) q5 <|
 arK eqlV (gt q5) (ct (.i .i64 0)) q6 <|
 condK (gt q6) (ldK 2 (gt q1) q7 <|
 stK 2 (gt q4) (gt q7) <|
 retK) (fin) <|
 faK 0 (gt q2) q8 <|
 ld1K (gt q8) q9 <|
 lensK (gt q9) q10 <|
 rK (evBuild [(.i .u8 0), (.i .i64 0)] [(0, 1), (1, 1)]) [(ct (.i .u8 4)), (gt q10)] q11 <|
 stK 2 (gt q4) (gt q11) <|
 retK⟩
theorem ft183 : (compFn P9 Z9 183).map fastFn = some fn183 := by kernel_rfl
noncomputable def fn184 : FFn := ⟨[.cell q2 2],
 alK [(.i .u8 0), (.i .i64 0)] 2 q2 <|
 mvK (gt q0) q3 <|
 rK (evBuild [(.i .u8 0), (.i .i64 0)] [(0, 1), (1, 1)]) [(ct (.i .u8 1)), (gt q3)] q4 <|
 stK 2 (gt q2) (gt q4) <|
 retK⟩
theorem ft184 : (compFn P9 Z9 184).map fastFn = some fn184 := by kernel_rfl
noncomputable def fn185 : FFn := ⟨[.t q4],
 boxK (gt q1) q3 <|
 mvK (ct (.i .i64 0)) q4 <|
 mvK (gt q0) q5 <|
 efD 1 ⟨(some q6), .call (.c (.f q167 [])) [.t q5], none, 1, false⟩ <|
 rdD 2 0 (.ld 4) [(gt q3)] q7 <|
 efD 3 ⟨(some q8), .call (.c (.f q241 [])) [.t q6, .t q7], none, 7, false⟩ <|
 mvK (gt q8) q4 <|
 endD <|
 retK⟩
theorem ft185 : (compFn P9 Z9 185).map fastFn = some fn185 := by kernel_rfl
noncomputable def fn186 : FFn := ⟨[.t q4],
 mvK (ct (.b false)) q4 <|
 mvK (gt q0) q5 <|
 mvK (gt q1) q6 <|
 callK q242 [(gt q5), (gt q6)] q7 <|
 arK geqV (gt q7) (ct (.i .i64 0)) q8 <|
 mvK (gt q8) q4 <|
 retK⟩
theorem ft186 : (compFn P9 Z9 186).map fastFn = some fn186 := by kernel_rfl
noncomputable def fn187 : FFn := ⟨[.t q3],
 boxK (gt q0) q2 <|
 mvK (ct (.b false)) q3 <|
 ld1K (gt q1) q4 <|
 ldK 2 (gt q2) q5 <|
 callK q92 [(gt q4), (gt q5)] q6 <|
 callK q174 [(gt q6)] q7 <|
 mvK (gt q7) q3 <|
 retK⟩
theorem ft187 : (compFn P9 Z9 187).map fastFn = some fn187 := by kernel_rfl
noncomputable def fn188 : FFn := ⟨[.t q3],
 boxK (gt q0) q2 <|
 mvK (ct (.b false)) q3 <|
 ld1K (gt q1) q4 <|
 ldK 2 (gt q2) q5 <|
 callK q92 [(gt q4), (gt q5)] q6 <|
 callK q174 [(gt q6)] q7 <|
 notK (gt q7) q8 <|
 mvK (gt q8) q3 <|
 retK⟩
theorem ft188 : (compFn P9 Z9 188).map fastFn = some fn188 := by kernel_rfl
noncomputable def fn189 : FFn := ⟨[.t q2],
 boxK (gt q0) q1 <|
 mvK (ct (.b false)) q2 <|
 faK 0 (gt q1) q3 <|
 ld1K (gt q3) q4 <|
 arK eqlV (gt q4) (ct (.i .u8 5)) q5 <|
 mvK (gt q5) q2 <|
 retK⟩
theorem ft189 : (compFn P9 Z9 189).map fastFn = some fn189 := by kernel_rfl
noncomputable def fn190 : FFn := ⟨[.t q12],
 boxK (gt q5) q11 <|
 mvK (ct (.i .i64 0)) q12 <|
 mvK (gt q0) q14 <|
 nilckK (gt q14) q15 <|
 faK 2 (gt q15) q16 <|
 ld1K (gt q16) q17 <|
 lensK (gt q17) q18 <|
 arK eqlV (gt q18) (ct (.i .i64 400)) q19 <|
 condK (gt q19) (mvK (ct (.i .i64 5)) q12 <|
 retK) (fin) <|
 mvK (gt q0) q20 <|
 mvK (gt q1) q21 <|
 mvK (gt q2) q22 <|
 mvK (gt q3) q23 <|
 mvK (gt q4) q24 <|
 callK q126 [(gt q20), (gt q21), (gt q22), (gt q23), (gt q24)] q25 <|
 mvK (gt q25) q13 <|
 mvK (gt q13) q26 <|
 nilckK (gt q26) q27 <|
 faK 0 (gt q27) q28 <|
 faK 4 (gt q28) q29 <|
 ld1D 4 15 (gt q29) q30 <|
 rdD 5 0 (.ld 2) [(gt q11)] q31 <|
 iaK 2 (gt q30) (ct (.i .i64 0)) q32 <|
 efD 7 ⟨none, .ef (.st 2) [.t q32, .t q31], none, 127, false⟩ <|
 endD <|
 mvK (gt q0) q33 <|
 mvK (gt q0) q34 <|
 nilckK (gt q34) q35 <|
 faK 2 (gt q35) q36 <|
 ld1K (gt q36) q37 <|
 mvK (gt q13) q38 <|
 aK (alRows 1 1) [(gt q38)] q39 <|
 eK (efApp 1 8) [(gt q37), (gt q39)] q40 <|
 nilckK (gt q33) q41 <|
 faK 2 (gt q41) q42 <|
 stK 1 (gt q42) (gt q40) <|
 mvK (ct (.i .i64 0)) q12 <|
 retK⟩
theorem ft190 : (compFn P9 Z9 190).map fastFn = some fn190 := by kernel_rfl
noncomputable def fn191 : FFn := ⟨[.cell q4 1, .cell q5 2, .t q6, .t q7],
 boxK (gt q0) q2 <|
 boxK (gt q1) q3 <|
 alK [.sn] 1 q4 <|
 alK [(.i .u8 0), (.i .i64 0)] 2 q5 <|
 mvK (ct .sn) q6 <|
 mvK (ct (.i .i64 0)) q7 <|
 ldK 1 (gt q2) q12 <|
 callK q158 [(gt q12)] q13 <|
 mvK (gt q13) q11 <|
 extK 0 (gt q11) q14 <|
 extK 1 (gt q11) q15 <|
 mvK (gt q14) q8 <|
 mvK (gt q15) q9 <|
 mvK (gt q9) q16 <|
 arK neqV (gt q16) (ct (.i .i64 0)) q17 <|
 condK (gt q17) (rK (evBuild [.sn] []) [] q18 <|
 rK (evBuild [(.i .u8 0), (.i .i64 0)] []) [] q19 <|
 mvK (gt q9) q20 <|
 stK 1 (gt q4) (gt q18) <|
 stK 2 (gt q5) (gt q19) <|
 mvK (ct .sn) q6 <|
 mvK (gt q20) q7 <|
 retK) (fin) <|
 mvK (gt q8) q22 <|
 ldK 8 (gt q3) q23 <|
 callK q243 [(gt q22), (gt q23)] q24 <|
 mvK (gt q24) q21 <|
 extK 0 (gt q21) q25 <|
 extK 1 (gt q21) q26 <|
 alK [(.i .u8 0), (.i .i64 0)] 2 q10 <|
 stK 2 (gt q10) (gt q25) <|
 mvK (gt q26) q9 <|
 mvK (gt q9) q27 <|
 arK neqV (gt q27) (ct (.i .i64 0)) q28 <|
 condK (gt q28) (rK (evBuild [.sn] []) [] q29 <|
 rK (evBuild [(.i .u8 0), (.i .i64 0)] []) [] q30 <|
 mvK (gt q9) q31 <|
 stK 1 (gt q4) (gt q29) <|
 stK 2 (gt q5) (gt q30) <|
 mvK (ct .sn) q6 <|
 mvK (gt q31) q7 <|
 retK) (fin) <|
 mvK (gt q8) q32 <|
 efD 1 ⟨(some q33), .call (.c (.f q244 [])) [.t q32], none, 1, false⟩ <|
 rdD 2 0 (.ld 2) [(gt q10)] q34 <|
 mvK (gt q8) q35 <|
 nilckK (gt q35) q36 <|
 faK 2 (gt q36) q37 <|
 ld1D 6 56 (gt q37) q38 <|
 efD 7 ⟨none, .ef (.st 1) [.t q4, .t q33], none, 3, false⟩ <|
 efD 8 ⟨none, .ef (.st 2) [.t q5, .t q34], none, 135, false⟩ <|
 mvK (gt q38) q6 <|
 mvK (ct (.i .i64 0)) q7 <|
 endD <|
 retK⟩
theorem ft191 : (compFn P9 Z9 191).map fastFn = some fn191 := by kernel_rfl
noncomputable def fn192 : FFn := ⟨[],
 mvK (gt q1) q6 <|
 lensK (gt q6) q7 <|
 mvK (ct (.i .i64 0)) q8 <|
 blockK 0 (loopK (arK lssV (gt q8) (gt q7) q9 <|
 condK (gt q9) (fin) (exitK 0) <|
 blockK 1 (iaK 3 (gt q6) (gt q8) q10 <|
 ldK 3 (gt q10) q11 <|
 alK [(.i .i64 0), (.i .u8 0), (.i .i64 0)] 3 q5 <|
 stK 3 (gt q5) (gt q11) <|
 mvK (gt q0) q12 <|
 nilckK (gt q12) q13 <|
 faK 2 (gt q13) q14 <|
 ld1D 3 7 (gt q14) q15 <|
 faK 0 (gt q5) q16 <|
 ld1D 5 16 (gt q16) q17 <|
 rK (evBin .quo) [(gt q17), (ct (.i .i64 1000))] q18 <|
 iaK 1 (gt q15) (gt q18) q19 <|
 ld1D 8 255 (gt q19) q20 <|
 nilckK (gt q20) q21 <|
 faK 0 (gt q21) q22 <|
 faK 5 (gt q22) q23 <|
 ld1D 12 4095 (gt q23) q24 <|
 faK 0 (gt q5) q25 <|
 ld1D 14 8192 (gt q25) q26 <|
 rK (evBin .rem) [(gt q26), (ct (.i .i64 1000))] q27 <|
 iaK 1 (gt q24) (gt q27) q28 <|
 ld1D 17 131071 (gt q28) q29 <|
 faK 1 (gt q5) q30 <|
 rdD 19 262144 (.ld 2) [(gt q30)] q31 <|
 iaK 2 (gt q29) (ct (.i .i64 0)) q32 <|
 efD 21 ⟨none, .ef (.st 2) [.t q32, .t q31], none, 2097151, false⟩ <|
 endD <|
 fin) <|
 arK addV (gt q8) (ct (.i .i64 1)) q33 <|
 mvK (gt q33) q8 <|
 fin) <|
 fin) <|
 fin⟩
theorem ft192 : (compFn P9 Z9 192).map fastFn = some fn192 := by kernel_rfl
noncomputable def fn193 : FFn := ⟨[.cell q4 2, .t q5],
 alK [(.i .u8 0), (.i .i64 0)] 2 q4 <|
 mvK (ct (.i .i64 0)) q5 <|
 callK q245 [] q9 <|
 mvK (gt q0) q10 <|
 hK (evLook false [2] (.agg [(.i .i64 0), .sn, .fn]) true) [(gt q9), (gt q10)] q11 <|
 mvK (gt q11) q8 <|
 extK 0 (gt q8) q12 <|
 extK 1 (gt q8) q13 <|
 alK [(.i .i64 0), .sn, .fn] 3 q6 <|
 stK 3 (gt q6) (gt q12) <|
 mvK (gt q13) q7 <|
 blockK 0 (mvK (gt q7) q15 <|
 notK (gt q15) q16 <|
 mvK (gt q16) q14 <|
 condK (gt q14) (rK (evBuild [(.i .u8 0), (.i .i64 0)] []) [] q17 <|
 stK 2 (gt q4) (gt q17) <|
 mvK (ct (.i .i64 10)) q5 <|
 retK) (mvK (gt q1) q19 <|
 lensK (gt q19) q20 <|
 faK 0 (gt q6) q21 <|
 ld1K (gt q21) q22 <|
 arK neqV (gt q20) (gt q22) q23 <|
 mvK (gt q23) q18 <|
 condK (gt q18) (rK (evBuild [(.i .u8 0), (.i .i64 0)] []) [] q24 <|
 stK 2 (gt q4) (gt q24) <|
 mvK (ct (.i .i64 2)) q5 <|
 retK) (mvK (gt q1) q26 <|
 callK q159 [(gt q26), (ct (.f q246 []))] q27 <|
 mvK (gt q27) q25 <|
 condK (gt q25) (rK (evBuild [(.i .u8 0), (.i .i64 0)] []) [] q28 <|
 stK 2 (gt q4) (gt q28) <|
 mvK (ct (.i .i64 4)) q5 <|
 retK) (fin) <|
 fin) <|
 fin) <|
 fin) <|
 ldK 3 (gt q6) q29 <|
 mvK (gt q1) q30 <|
 callK q247 [(gt q29), (gt q30)] q31 <|
 stK 2 (gt q4) (gt q31) <|
 mvK (ct (.i .i64 0)) q5 <|
 retK⟩
theorem ft193 : (compFn P9 Z9 193).map fastFn = some fn193 := by kernel_rfl
noncomputable def fn194 : FFn := ⟨[.cell q2 2],
 boxK (gt q0) q1 <|
 alK [(.i .u8 0), (.i .i64 0)] 2 q2 <|
 faK 0 (gt q1) q3 <|
 ld1K (gt q3) q4 <|
 blockK 0 (arK eqlV (gt q4) (ct (.i .u8 5)) q6 <|
 mvK (gt q6) q5 <|
 condK (gt q5) (ldK 2 (gt q1) q7 <|
 stK 2 (gt q2) (gt q7) <|
 retK) (arK eqlV (gt q4) (ct (.i .u8 3)) q9 <|
 mvK (gt q9) q8 <|
 condK (gt q8) (rK (evBuild [(.i .u8 0), (.i .i64 0)] [(0, 1), (1, 1)]) [(ct (.i .u8 2)), (ct (.i .i64 1))] q10 <|
 stK 2 (gt q2) (gt q10) <|
 retK) (arK eqlV (gt q4) (ct (.i .u8 4)) q12 <|
 mvK (gt q12) q11 <|
 condK (gt q11) (rK (evBuild [(.i .u8 0), (.i .i64 0)] [(0, 1)]) [(ct (.i .u8 2))] q13 <|
 stK 2 (gt q2) (gt q13) <|
 retK) (fin) <|
 fin) <|
 fin) <|
 fin) <|
 rK (evBuild [(.i .u8 0), (.i .i64 0)] [(0, 1), (1, 1)]) [(ct (.i .u8 5)), (ct (.i .i64 5))] q14 <|
 stK 2 (gt q2) (gt q14) <|
 retK⟩
theorem ft194 : (compFn P9 Z9 194).map fastFn = some fn194 := by kernel_rfl
noncomputable def fn195 : FFn := ⟨[.cell q4 2],
 boxK (gt q0) q2 <|
 boxK (gt q1) q3 <|
 alK [(.i .u8 0), (.i .i64 0)] 2 q4 <|
 blockK 0 (ldK 2 (gt q3) q6 <|
 callK q189 [(gt q6)] q7 <|
 mvK (gt q7) q5 <|
 condK (gt q5) (ldK 2 (gt q3) q8 <|
 stK 2 (gt q4) (gt q8) <|
 retK) (faK 0 (gt q2) q10 <|
 ld1K (gt q10) q11 <|
 arK eqlV (gt q11) (ct (.i .u8 3)) q12 <|
 mvK (gt q12) q9 <|
 condK (gt q9) (rK (evBuild [(.i .u8 0), (.i .i64 0)] [(0, 1)]) [(ct (.i .u8 3))] q13 <|
 stK 2 (gt q4) (gt q13) <|
 retK) (faK 0 (gt q2) q15 <|
 ld1K (gt q15) q16 <|
 arK eqlV (gt q16) (ct (.i .u8 2)) q17 <|
 mvK (gt q17) q14 <|
 condK (gt q14) (faK 2 (gt q2) q18 <|
 ld1K (gt q18) q19 <|
 rK (evBuild [(.i .u8 0), (.i .i64 0)] [(0, 1), (1, 1)]) [(ct (.i .u8 2)), (gt q19)] q20 <|
 stK 2 (gt q4) (gt q20) <|
 retK) (fin) <|
 fin) <|
 fin) <|
 fin) <|
 faK 2 (gt q2) q21 <|
 ld1K (gt q21) q22 <|
 rK (evBuild [(.i .u8 0), (.i .i64 0)] [(0, 1), (1, 1)]) [(ct (.i .u8 1)), (gt q22)] q23 <|
 stK 2 (gt q4) (gt q23) <|
 retK⟩
theorem ft195 : (compFn P9 Z9 195).map fastFn = some fn195 := by kernel_rfl
noncomputable def fn196 : FFn := ⟨[.t q4],
 mvK (ct (.b false)) q4 <|
 mvK (gt q1) q8 <|
 nilckK (gt q8) q9 <|
 faK 0 (gt q9) q10 <|
 faK 3 (gt q10) q11 <|
 ld1K (gt q11) q12 <|
 arK gtrV (gt q12) (ct (.i .i64 0)) q13 <|
 condK (gt q13) (mvK (ct (.b false)) q4 <|
 retK) (fin) <|
 mvK (gt q0) q14 <|
 nilckK (gt q14) q15 <|
 faK 2 (gt q15) q16 <|
 ld1D 3 7 (gt q16) q17 <|
 mvK (gt q1) q18 <|
 nilckK (gt q18) q19 <|
 faK 0 (gt q19) q20 <|
 faK 1 (gt q20) q21 <|
 ld1D 8 240 (gt q21) q22 <|
 iaK 1 (gt q17) (gt q22) q23 <|
 ld1D 10 1023 (gt q23) q24 <|
 mvK (gt q24) q5 <|
 endD <|
 mvK (gt q0) q25 <|
 nilckK (gt q25) q26 <|
 faK 0 (gt q26) q27 <|
 ld1D 3 7 (gt q27) q28 <|
 mvK (gt q5) q29 <|
 nilckK (gt q29) q30 <|
 faK 0 (gt q30) q31 <|
 faK 0 (gt q31) q32 <|
 ld1D 8 240 (gt q32) q33 <|
 iaK 5 (gt q28) (gt q33) q34 <|
 faK 2 (gt q34) q35 <|
 ld1D 11 2047 (gt q35) q36 <|
 mvK (gt q1) q37 <|
 nilckK (gt q37) q38 <|
 faK 0 (gt q38) q39 <|
 faK 2 (gt q39) q40 <|
 ld1D 16 61440 (gt q40) q41 <|
 iaK 4 (gt q36) (gt q41) q42 <|
 faK 3 (gt q42) q43 <|
 ld1D 19 524287 (gt q43) q44 <|
 lensK (gt q44) q45 <|
 mvK (ct (.i .i64 0)) q46 <|
 endD <|
 blockK 0 (loopK (arK lssV (gt q46) (gt q45) q47 <|
 condK (gt q47) (fin) (exitK 0) <|
 blockK 1 (mvK (gt q46) q48 <|
 iaK 2 (gt q44) (gt q46) q49 <|
 ldK 2 (gt q49) q50 <|
 alK [(.i .i64 0), (.i .i64 0)] 2 q7 <|
 mvK (gt q48) q6 <|
 stK 2 (gt q7) (gt q50) <|
 mvK (gt q1) q51 <|
 mvK (gt q6) q52 <|
 mvK (gt q5) q53 <|
 ldK 2 (gt q7) q54 <|
 callK q92 [(gt q53), (gt q54)] q55 <|
 callK q248 [(gt q51), (gt q52), (gt q55)] q56 <|
 mvK (gt q56) q57 <|
 gK q57 false q58 (mvK (gt q4) q58) <|
 pickK (gt q57) (ct (.b true)) (gt q58) q59 <|
 mvK (gt q59) q4 <|
 fin) <|
 arK addV (gt q46) (ct (.i .i64 1)) q60 <|
 mvK (gt q60) q46 <|
 fin) <|
 fin) <|
 mvK (gt q4) q61 <|
 mvK (gt q61) q4 <|
 retK⟩
theorem ft196 : (compFn P9 Z9 196).map fastFn = some fn196 := by kernel_rfl
end Go.Proofs.YtkfdbldnghcngaaGreat.Fast
