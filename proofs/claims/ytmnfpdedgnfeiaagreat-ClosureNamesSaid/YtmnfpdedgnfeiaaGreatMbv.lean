/- Part of the proof. -/
import Derived.Test.YtmnfpdedgnfeiaaGreatMai
set_option linter.all false
noncomputable section
namespace Go.Proofs.YtmnfpdedgnfeiaaGreat
open Go.Fg
section
set_option maxRecDepth 100000
set_option maxHeartbeats 4000000
attribute [local simp] J9 J5 J_ Ka Kl J0 JY Ki Kh J4 J3 Kq Ks Kr funext_iff
attribute [local irreducible] A7 AW Bt Bf AZ A1 Ca Ea DT C8 DW CB BE Eo F4 Hy Hz E7 HN F5 Hx H2 Gi JB H1 Fx G1 GO Ii Ih De If Hw HM Ig HL jj xx Option.bind Dw G.V LN CL Du bl IF DX f1 f2 nx FK I4 AO CT Ax BV CY Er
variable{cf:Bh}
theorem r5(cf:Bh)(h:G):xx cf 5 [] h=
 (cf (Ar 16) [] h).bind λp0=>
 (BE [.sn,.sn] [] []).bind λv1=>
 (cf (Ar 8) [.sn,v1] p0.2).bind λp2=>
 (Ca 0 [p2.1]).bind λv3=>
 (Ca 1 [p2.1]).bind λv4=>
 bl (.p (p2.2).next 0) ((p2.2).V (.I 7 [.sn,.sn,(.i .i64 0),(.i .i64 0),(.i .i64 0),(.i .i64 0),.sn])) λv5 h6=>
 (A1 7 h6 [v5,v3]).bind λp7=>
 (BE [.sn,.sn] [] []).bind λv8=>
 (cf (Ar 8) [p0.1,v8] p7.2).bind λp9=>
 (Ca 0 [p9.1]).bind λv10=>
 (Ca 1 [p9.1]).bind λv11=>
 bl (.p (p9.2).next 0) ((p9.2).V (.I 7 [.sn,.sn,(.i .i64 0),(.i .i64 0),(.i .i64 0),(.i .i64 0),.sn])) λv12 h13=>
 (A1 7 h13 [v12,v10]).bind λp14=>
 (Gi [(.i .i64 0)] 1 8 (p14.2).next [(.i .i64 41),(.i .i64 41)]).bind λp15=>
 (cf (Ar 17) [(.b true),p15.2] (G.V p14.2 p15.1)).bind λp16=>
 (cf (Ar 8) [p0.1,p16.1] p16.2).bind λp17=>
 (Ca 0 [p17.1]).bind λv18=>
 (Ca 1 [p17.1]).bind λv19=>
 bl (.p (p17.2).next 0) ((p17.2).V (.I 7 [.sn,.sn,(.i .i64 0),(.i .i64 0),(.i .i64 0),(.i .i64 0),.sn])) λv20 h21=>
 (A1 7 h21 [v20,v18]).bind λp22=>
 (CB 1 1 (p22.2).next [(.i .i64 1000000001)]).bind λp23=>
 (cf (Ar 17) [(.b true),p23.2] (G.V p22.2 p23.1)).bind λp24=>
 (cf (Ar 8) [p0.1,p24.1] p24.2).bind λp25=>
 (Ca 0 [p25.1]).bind λv26=>
 (Ca 1 [p25.1]).bind λv27=>
 bl (.p (p25.2).next 0) ((p25.2).V (.I 7 [.sn,.sn,(.i .i64 0),(.i .i64 0),(.i .i64 0),(.i .i64 0),.sn])) λv28 h29=>
 (A1 7 h29 [v28,v26]).bind λp30=>
 (cf (Ar 17) [(.b true),.sn] p30.2).bind λp31=>
 (cf (Ar 18) [p0.1,p31.1,(.i .i64 (-1))] p31.2).bind λp32=>
 (Ca 0 [p32.1]).bind λv33=>
 (Ca 1 [p32.1]).bind λv34=>
 bl (.p (p32.2).next 0) ((p32.2).V (.I 4 [.sn,.sn,(.i .i64 0),(.i .i64 0)])) λv35 h36=>
 (A1 4 h36 [v35,v33]).bind λp37=>
 (cf (Ar 17) [(.b true),.sn] p37.2).bind λp38=>
 (CB 2 1 (p38.2).next [(.i .i64 0),(.i .i64 (-1))]).bind λp39=>
 (cf (Ar 11) [p0.1,p38.1,p39.2] (G.V p38.2 p39.1)).bind λp40=>
 (Ca 0 [p40.1]).bind λv41=>
 (Ca 1 [p40.1]).bind λv42=>
 (Ca 2 [p40.1]).bind λv43=>
 bl (.p (p40.2).next 0) ((p40.2).V (.I 7 [.sn,.sn,(.i .i64 0),(.i .i64 0),(.i .i64 0),(.i .i64 0),.sn])) λv44 h45=>
 (A1 7 h45 [v44,v41]).bind λp46=>
 (CB 1 1 (p46.2).next [(.i .i64 1)]).bind λp47=>
 (cf (Ar 17) [(.b true),p47.2] (G.V p46.2 p47.1)).bind λp48=>
 (BE [(.i .i64 0),(.i .i64 0)] [(0,1),(1,1)] [(.i .i64 3),(.i .i64 2)]).bind λv49=>
 (CB 1 2 (p48.2).next [v49]).bind λp50=>
 (BE [(.i .i64 0),(.i .i64 0)] [(0,1)] [(.i .i64 (-1))]).bind λv51=>
 (cf (Ar 19) [p0.1,p48.1,p50.2,v51] (G.V p48.2 p50.1)).bind λp52=>
 (Ca 0 [p52.1]).bind λv53=>
 (Ca 1 [p52.1]).bind λv54=>
 bl (.p (p52.2).next 0) ((p52.2).V (.I 2 [.sn,.sn])) λv55 h56=>
 (A1 2 h56 [v55,v53]).bind λp57=>
 (CB 1 1 (p57.2).next [(.i .i64 1)]).bind λp58=>
 (cf (Ar 17) [(.b true),p58.2] (G.V p57.2 p58.1)).bind λp59=>
 (BE [(.i .i64 0),(.i .i64 0)] [(0,1)] [(.i .i64 4)]).bind λv60=>
 (cf (Ar 19) [p0.1,p59.1,.sn,v60] p59.2).bind λp61=>
 (Ca 0 [p61.1]).bind λv62=>
 (Ca 1 [p61.1]).bind λv63=>
 bl (.p (p61.2).next 0) ((p61.2).V (.I 2 [.sn,.sn])) λv64 h65=>
 (A1 2 h65 [v64,v62]).bind λp66=>
 (CB 1 1 (p66.2).next [(.i .i64 1)]).bind λp67=>
 (cf (Ar 17) [(.b true),p67.2] (G.V p66.2 p67.1)).bind λp68=>
 (BE [(.i .i64 0),(.i .i64 0)] [(0,1),(1,1)] [(.i .i64 3),(.i .i64 1)]).bind λv69=>
 (CB 1 2 (p68.2).next [v69]).bind λp70=>
 (BE [(.i .i64 0),(.i .i64 0)] [(0,1),(1,1)] [(.i .i64 (-1)),(.i .i64 2)]).bind λv71=>
 (cf (Ar 19) [p0.1,p68.1,p70.2,v71] (G.V p68.2 p70.1)).bind λp72=>
 (Ca 0 [p72.1]).bind λv73=>
 (Ca 1 [p72.1]).bind λv74=>
 bl (.p (p72.2).next 0) ((p72.2).V (.I 2 [.sn,.sn])) λv75 h76=>
 (A1 2 h76 [v75,v73]).bind λp77=>
 (cf (Ar 17) [(.b true),.sn] p77.2).bind λp78=>
 (cf (Ar 8) [p0.1,p78.1] p78.2).bind λp79=>
 (Ca 0 [p79.1]).bind λv80=>
 (Ca 1 [p79.1]).bind λv81=>
 bl (.p (p79.2).next 0) ((p79.2).V (.I 7 [.sn,.sn,(.i .i64 0),(.i .i64 0),(.i .i64 0),(.i .i64 0),.sn])) λv82 h83=>
 (A1 7 h83 [v82,v80]).bind λp84=>
 (A7 .neq [v4,(.i .i64 9)]).bind λv85=>
 (cond (AO false v85) (some v11) (some Ax)).bind λv86=>
 (cond (AO false v85) ((A7 .neq [v86,(.i .i64 2)]).bind λv159=>some v159) (some Ax)).bind λv87=>
 (C8 [v85,(.b true),v87]).bind λv88=>
 (cond (AO false v88) (some v19) (some Ax)).bind λv89=>
 (cond (AO false v88) ((A7 .neq [v89,(.i .i64 5)]).bind λv158=>some v158) (some Ax)).bind λv90=>
 (C8 [v88,(.b true),v90]).bind λv91=>
 (cond (AO false v91) (some v27) (some Ax)).bind λv92=>
 (cond (AO false v91) ((A7 .neq [v92,(.i .i64 3)]).bind λv157=>some v157) (some Ax)).bind λv93=>
 (C8 [v91,(.b true),v93]).bind λv94=>
 (cond (AO false v94) (some v34) (some Ax)).bind λv95=>
 (cond (AO false v94) ((A7 .neq [v95,(.i .i64 3)]).bind λv156=>some v156) (some Ax)).bind λv96=>
 (C8 [v94,(.b true),v96]).bind λv97=>
 (cond (AO false v97) (some v43) (some Ax)).bind λv98=>
 (cond (AO false v97) ((A7 .neq [v98,(.i .i64 3)]).bind λv155=>some v155) (some Ax)).bind λv99=>
 (C8 [v97,(.b true),v99]).bind λv100=>
 (cond (AO false v100) (some v54) (some Ax)).bind λv101=>
 (cond (AO false v100) ((A7 .neq [v101,(.i .i64 7)]).bind λv154=>some v154) (some Ax)).bind λv102=>
 (C8 [v100,(.b true),v102]).bind λv103=>
 (cond (AO false v103) (some v63) (some Ax)).bind λv104=>
 (cond (AO false v103) ((A7 .neq [v104,(.i .i64 7)]).bind λv153=>some v153) (some Ax)).bind λv105=>
 (C8 [v103,(.b true),v105]).bind λv106=>
 (cond (AO false v106) (some v74) (some Ax)).bind λv107=>
 (cond (AO false v106) ((A7 .neq [v107,(.i .i64 0)]).bind λv152=>some v152) (some Ax)).bind λv108=>
 (C8 [v106,(.b true),v108]).bind λv109=>
 (cond (AO false v109) ((Bf 2 p84.2 [v75]).bind λv151=>some v151) (some Ax)).bind λv110=>
 (cond (AO false v109) ((cf (Ar 21) [(.i .i64 2)] p84.2).bind λp150=>cond (CY 34359738367 p150.2 (CT (AO false v109) ⟨35,(.ld 2),[v75],v110⟩ [])) (
 some p150) none) (some (Ax,p84.2))).bind λp111=>
 (cond (AO false v109) (DX (.E_ 1 2) [p111.1] p111.2) (some (Ax,p111.2))).bind λp112=>
 (cond (AO false v109) ((BE [.sn,.sn] [(0,1)] [p112.1]).bind λv149=>some v149) (some Ax)).bind λv113=>
 (cond (AO false v109) ((cf (Ar 20) [v110,v113] p112.2).bind λp148=>cond (CY 549755813887 p148.2 (CT (AO false v109) ⟨35,(.ld 2),[v75],v110⟩ [])) (
 some p148) none) (some (Ax,p112.2))).bind λp114=>
 (cond (AO false v109) ((DW [p114.1]).bind λv147=>some v147) (some Ax)).bind λv115=>
 (C8 [v109,(.b true),v115]).bind λv116=>
 (cond (AO false v116) (some v81) (some Ax)).bind λv117=>
 (cond (AO false v116) ((A7 .neq [v117,(.i .i64 0)]).bind λv146=>some v146) (some Ax)).bind λv118=>
 (C8 [v116,(.b true),v118]).bind λv119=>
 (cond (AO false v119) ((Bt 0 [v82]).bind λv145=>some v145) (some Ax)).bind λv120=>
 (cond (AO false v119) ((Bt 0 [v120]).bind λv144=>some v144) (some Ax)).bind λv121=>
 (cond (AO false v119) ((AW p114.2 [v121]).bind λv143=>some v143) (some Ax)).bind λv122=>
 (cond (AO false v119) ((Ea [v122]).bind λv142=>some v142) (some Ax)).bind λv123=>
 (cond (AO false v119) ((A7 .neq [v123,(.i .i64 1)]).bind λv141=>some v141) (some Ax)).bind λv124=>
 (C8 [v119,(.b true),v124]).bind λv125=>
 (cond (AO false v125) ((Bt 0 [v82]).bind λv140=>some v140) (some Ax)).bind λv126=>
 (cond (AO false v125) ((Bt 0 [v126]).bind λv139=>some v139) (some Ax)).bind λv127=>
 (cond (AO false v125) ((AW p114.2 [v127]).bind λv138=>some v138) (some Ax)).bind λv128=>
 (cond (AO false v125) ((AZ 2 [v128,(.i .i64 0)]).bind λv137=>some v137) (some Ax)).bind λv129=>
 (cond (AO false v125) ((Bf 2 p114.2 [v129]).bind λv136=>some v136) (some Ax)).bind λv130=>
 (cond (AO false v125) ((cf (Ar 22) [(.i .i64 3)] p114.2).bind λp135=>cond (CY 18014398509481983 p135.2 (CT (AO false v125) ⟨58,(.ld 2),[v129],v130⟩ (CT (AO false v125) ⟨56,.Dg,[v127],v128⟩ (CT (AO false v109) ⟨35,(.ld 2),[v75],v110⟩ [])))) (
 some p135) none) (some (Ax,p114.2))).bind λp131=>
 (cond (AO false v125) ((F5 true [0,0] [v130,p131.1]).bind λv134=>some v134) (some Ax)).bind λv132=>
 (C8 [v125,(.b true),v132]).bind λv133=>
 Dw (
 some ((.b false),p131.2)) (
 jj cf 5 1 [] p131.2) v133:=by kernel_rfl
theorem AcK(cf:Bh)(h:G):jj cf 5 1 [] h=
 (cf (Ar 16) [] h).bind λp0=>
 (AZ 5 [p0.1,(.i .i64 1)]).bind λv1=>
 (Bt 2 [v1]).bind λv2=>
 (AW p0.2 [v2]).bind λv3=>
 (BE [(.i .i64 0),(.i .i64 0)] [(0,1)] [(.i .i64 0)]).bind λv4=>
 (BE [(.i .i64 0),(.i .i64 0)] [(0,1)] [(.i .i64 0)]).bind λv5=>
 (CB 2 2 (p0.2).next [v4,v5]).bind λp6=>
 (BE [(.i .u8 0),(.s []),(.i .i64 0),.sn] [(0,1),(1,1),(3,1)] [(.i .u8 4),(.s [108,101]),p6.2]).bind λv7=>
 (AZ 4 [v3,(.i .i64 1)]).bind λv8=>
 (A1 4 (G.V p0.2 p6.1) [v8,v7]).bind λp9=>
 (CB 1 1 (p9.2).next [(.i .i64 1)]).bind λp10=>
 (cf (Ar 17) [(.b true),p10.2] (G.V p9.2 p10.1)).bind λp11=>
 (cf (Ar 8) [p0.1,p11.1] p11.2).bind λp12=>
 (Ca 0 [p12.1]).bind λv13=>
 (Ca 1 [p12.1]).bind λv14=>
 bl (.p (p12.2).next 0) ((p12.2).V (.I 7 [.sn,.sn,(.i .i64 0),(.i .i64 0),(.i .i64 0),(.i .i64 0),.sn])) λv15 h16=>
 (A1 7 h16 [v15,v13]).bind λp17=>
 (BE [(.i .i64 0),(.i .i64 0)] [(0,1)] [(.i .i64 (-1))]).bind λv18=>
 bl (.p (p17.2).next 0) ((p17.2).V (.I 2 [(.i .i64 0),(.i .i64 0)])) λv19 h20=>
 (A1 2 h20 [v19,v18]).bind λp21=>
 (Bf 2 p21.2 [v19]).bind λv22=>
 (CB 1 2 (p21.2).next [v22]).bind λp23=>
 (BE [(.i .u8 0),(.s []),(.i .i64 0),.sn] [(0,1),(2,1),(3,1)] [(.i .u8 1),(.i .i64 1),p23.2]).bind λv24=>
 (BE [(.i .i64 0),(.i .i64 0)] [] []).bind λv25=>
 (CB 1 2 ((G.V p21.2 p23.1)).next [v25]).bind λp26=>
 (BE [(.i .u8 0),(.s []),(.i .i64 0),.sn] [(0,1),(3,1)] [(.i .u8 10),p26.2]).bind λv27=>
 (Bf 2 (G.V (G.V p21.2 p23.1) p26.1) [v19]).bind λv28=>
 (CB 1 2 ((G.V (G.V p21.2 p23.1) p26.1)).next [v28]).bind λp29=>
 (BE [(.i .u8 0),(.s []),(.i .i64 0),.sn] [(0,1),(3,1)] [(.i .u8 1),p29.2]).bind λv30=>
 (BE [(.i .i64 0),(.i .i64 0)] [(0,1)] [(.i .i64 1)]).bind λv31=>
 (BE [(.i .i64 0),(.i .i64 0)] [(0,1)] [(.i .i64 2)]).bind λv32=>
 (BE [(.i .i64 0),(.i .i64 0)] [] []).bind λv33=>
 (CB 3 2 ((G.V (G.V (G.V p21.2 p23.1) p26.1) p29.1)).next [v31,v32,v33]).bind λp34=>
 (BE [(.i .u8 0),(.s []),(.i .i64 0),.sn] [(0,1),(3,1)] [(.i .u8 11),p34.2]).bind λv35=>
 (BE [(.i .i64 0),(.i .i64 0)] [(0,1)] [(.i .i64 1)]).bind λv36=>
 (BE [(.i .i64 0),(.i .i64 0)] [(0,1)] [(.i .i64 2)]).bind λv37=>
 (BE [(.i .i64 0),(.i .i64 0)] [] []).bind λv38=>
 (CB 3 2 ((G.V (G.V (G.V (G.V p21.2 p23.1) p26.1) p29.1) p34.1)).next [v36,v37,v38]).bind λp39=>
 (BE [(.i .u8 0),(.s []),(.i .i64 0),.sn] [(0,1),(3,1)] [(.i .u8 11),p39.2]).bind λv40=>
 (CB 5 4 ((G.V (G.V (G.V (G.V (G.V p21.2 p23.1) p26.1) p29.1) p34.1) p39.1)).next [v24,v27,v30,v35,v40]).bind λp41=>
 (BE [(.s []),(.i .i64 0),.sn,.sn,.sn] [(0,1),(1,1),(2,1)] [(.s [109,97,105,110]),(.i .i64 1),p41.2]).bind λv42=>
 (CB 1 5 ((G.V (G.V (G.V (G.V (G.V (G.V p21.2 p23.1) p26.1) p29.1) p34.1) p39.1) p41.1)).next [v42]).bind λp43=>
 (BE [.sn,.sn] [] []).bind λv44=>
 (cf (Ar 8) [p43.2,v44] (G.V (G.V (G.V (G.V (G.V (G.V (G.V p21.2 p23.1) p26.1) p29.1) p34.1) p39.1) p41.1) p43.1)).bind λp45=>
 (Ca 0 [p45.1]).bind λv46=>
 (Ca 1 [p45.1]).bind λv47=>
 bl (.p (p45.2).next 0) ((p45.2).V (.I 7 [.sn,.sn,(.i .i64 0),(.i .i64 0),(.i .i64 0),(.i .i64 0),.sn])) λv48 h49=>
 (A1 7 h49 [v48,v46]).bind λp50=>
 (Bf 2 p50.2 [v19]).bind λv51=>
 (Bf 2 p50.2 [v19]).bind λv52=>
 (CB 2 2 (p50.2).next [v51,v52]).bind λp53=>
 (BE [(.i .u8 0),(.s []),(.i .i64 0),.sn] [(0,1),(3,1)] [(.i .u8 6),p53.2]).bind λv54=>
 (CB 1 4 ((G.V p50.2 p53.1)).next [v54]).bind λp55=>
 (BE [(.s []),(.i .i64 0),.sn,.sn,.sn] [(0,1),(1,1),(2,1)] [(.s [109,97,105,110]),(.i .i64 1),p55.2]).bind λv56=>
 (CB 1 5 ((G.V (G.V p50.2 p53.1) p55.1)).next [v56]).bind λp57=>
 (BE [.sn,.sn] [] []).bind λv58=>
 (cf (Ar 8) [p57.2,v58] (G.V (G.V (G.V p50.2 p53.1) p55.1) p57.1)).bind λp59=>
 (Ca 0 [p59.1]).bind λv60=>
 (Ca 1 [p59.1]).bind λv61=>
 bl (.p (p59.2).next 0) ((p59.2).V (.I 7 [.sn,.sn,(.i .i64 0),(.i .i64 0),(.i .i64 0),(.i .i64 0),.sn])) λv62 h63=>
 (A1 7 h63 [v62,v60]).bind λp64=>
 (Bf 2 p64.2 [v19]).bind λv65=>
 (CB 1 2 (p64.2).next [v65]).bind λp66=>
 (BE [(.i .u8 0),(.s []),(.i .i64 0),.sn] [(0,1),(2,1),(3,1)] [(.i .u8 1),(.i .i64 1),p66.2]).bind λv67=>
 (BE [(.i .i64 0),(.i .i64 0)] [] []).bind λv68=>
 (CB 1 2 ((G.V p64.2 p66.1)).next [v68]).bind λp69=>
 (BE [(.i .u8 0),(.s []),(.i .i64 0),.sn] [(0,1),(3,1)] [(.i .u8 10),p69.2]).bind λv70=>
 (Bf 2 (G.V (G.V p64.2 p66.1) p69.1) [v19]).bind λv71=>
 (CB 1 2 ((G.V (G.V p64.2 p66.1) p69.1)).next [v71]).bind λp72=>
 (BE [(.i .u8 0),(.s []),(.i .i64 0),.sn] [(0,1),(3,1)] [(.i .u8 1),p72.2]).bind λv73=>
 (BE [(.i .i64 0),(.i .i64 0)] [(0,1)] [(.i .i64 1)]).bind λv74=>
 (BE [(.i .i64 0),(.i .i64 0)] [(0,1)] [(.i .i64 2)]).bind λv75=>
 (CB 2 2 ((G.V (G.V (G.V p64.2 p66.1) p69.1) p72.1)).next [v74,v75]).bind λp76=>
 (BE [(.i .u8 0),(.s []),(.i .i64 0),.sn] [(0,1),(3,1)] [(.i .u8 12),p76.2]).bind λv77=>
 (CB 4 4 ((G.V (G.V (G.V (G.V p64.2 p66.1) p69.1) p72.1) p76.1)).next [v67,v70,v73,v77]).bind λp78=>
 (BE [(.i .i64 0),(.i .i64 0)] [(0,1)] [(.i .i64 3)]).bind λv79=>
 (BE [(.i .i64 0),(.i .i64 0)] [(0,1)] [(.i .i64 1)]).bind λv80=>
 (CB 2 2 ((G.V (G.V (G.V (G.V (G.V p64.2 p66.1) p69.1) p72.1) p76.1) p78.1)).next [v79,v80]).bind λp81=>
 (BE [(.s []),(.i .i64 0),.sn,.sn,.sn] [(0,1),(1,1),(2,1),(4,1)] [(.s [109,97,105,110]),(.i .i64 1),p78.2,p81.2]).bind λv82=>
 (CB 1 5 ((G.V (G.V (G.V (G.V (G.V (G.V p64.2 p66.1) p69.1) p72.1) p76.1) p78.1) p81.1)).next [v82]).bind λp83=>
 (BE [.sn,.sn] [] []).bind λv84=>
 (cf (Ar 8) [p83.2,v84] (G.V (G.V (G.V (G.V (G.V (G.V (G.V p64.2 p66.1) p69.1) p72.1) p76.1) p78.1) p81.1) p83.1)).bind λp85=>
 (Ca 0 [p85.1]).bind λv86=>
 (Ca 1 [p85.1]).bind λv87=>
 bl (.p (p85.2).next 0) ((p85.2).V (.I 7 [.sn,.sn,(.i .i64 0),(.i .i64 0),(.i .i64 0),(.i .i64 0),.sn])) λv88 h89=>
 (A1 7 h89 [v88,v86]).bind λp90=>
 (A7 .eql [v14,(.i .i64 5)]).bind λv91=>
 (cond (AO true v91) (some v47) (some Ax)).bind λv92=>
 (cond (AO true v91) ((A7 .eql [v92,(.i .i64 6)]).bind λv161=>some v161) (some Ax)).bind λv93=>
 (C8 [v91,v93,(.b false)]).bind λv94=>
 (cond (AO true v94) (some v61) (some Ax)).bind λv95=>
 (cond (AO true v94) ((A7 .eql [v95,(.i .i64 6)]).bind λv160=>some v160) (some Ax)).bind λv96=>
 (C8 [v94,v96,(.b false)]).bind λv97=>
 (cond (AO true v97) (some v87) (some Ax)).bind λv98=>
 (cond (AO true v97) ((A7 .eql [v98,(.i .i64 0)]).bind λv159=>some v159) (some Ax)).bind λv99=>
 (C8 [v97,v99,(.b false)]).bind λv100=>
 (cond (AO true v100) ((Bt 6 [v88]).bind λv158=>some v158) (some Ax)).bind λv101=>
 (cond (AO true v100) ((AW p90.2 [v101]).bind λv157=>some v157) (some Ax)).bind λv102=>
 (cond (AO true v100) ((Ea [v102]).bind λv156=>some v156) (some Ax)).bind λv103=>
 (cond (AO true v100) ((A7 .eql [v103,(.i .i64 1)]).bind λv155=>some v155) (some Ax)).bind λv104=>
 (C8 [v100,v104,(.b false)]).bind λv105=>
 (cond (AO true v105) ((Bt 6 [v88]).bind λv154=>some v154) (some Ax)).bind λv106=>
 (cond (AO true v105) ((AW p90.2 [v106]).bind λv153=>some v153) (some Ax)).bind λv107=>
 (cond (AO true v105) ((AZ 2 [v107,(.i .i64 0)]).bind λv152=>some v152) (some Ax)).bind λv108=>
 (cond (AO true v105) ((Bt 1 [v108]).bind λv151=>some v151) (some Ax)).bind λv109=>
 (cond (AO true v105) ((AW p90.2 [v109]).bind λv150=>some v150) (some Ax)).bind λv110=>
 (cond (AO true v105) ((A7 .eql [v110,(.i .i64 3)]).bind λv149=>some v149) (some Ax)).bind λv111=>
 (C8 [v105,v111,(.b false)]).bind λv112=>
 (cond (AO true v112) ((Bt 6 [v88]).bind λv148=>some v148) (some Ax)).bind λv113=>
 (cond (AO true v112) ((AW p90.2 [v113]).bind λv147=>some v147) (some Ax)).bind λv114=>
 (cond (AO true v112) ((AZ 2 [v114,(.i .i64 0)]).bind λv146=>some v146) (some Ax)).bind λv115=>
 (cond (AO true v112) ((Bt 0 [v115]).bind λv145=>some v145) (some Ax)).bind λv116=>
 (cond (AO true v112) ((AW p90.2 [v116]).bind λv144=>some v144) (some Ax)).bind λv117=>
 (cond (AO true v112) ((Ea [v117]).bind λv143=>some v143) (some Ax)).bind λv118=>
 (cond (AO true v112) ((A7 .eql [v118,(.i .i64 0)]).bind λv142=>some v142) (some Ax)).bind λv119=>
 (C8 [v112,v119,(.b false)]).bind λv120=>
 (cond (AO true v120) ((Bt 0 [v88]).bind λv141=>some v141) (some Ax)).bind λv121=>
 (cond (AO true v120) ((Bf 2 p90.2 [v121]).bind λv140=>some v140) (some Ax)).bind λv122=>
 (cond (AO true v120) ((BE [(.i .u8 0),(.i .i64 0)] [] []).bind λv139=>some v139) (some Ax)).bind λv123=>
 (cond (AO true v120) ((cf (Ar 23) [(.i .i64 0)] p90.2).bind λp138=>cond (CY 274877906943 p138.2 (CT (AO true v120) ⟨39,(.ld 2),[v121],v122⟩ [])) (
 some p138) none) (some (Ax,p90.2))).bind λp124=>
 (cond (AO true v120) (DX (.E_ 2 2) [v123,p124.1] p124.2) (some (Ax,p124.2))).bind λp125=>
 (cond (AO true v120) ((BE [(.i .u8 0),(.i .i64 0)] [] []).bind λv137=>some v137) (some Ax)).bind λv126=>
 (cond (AO true v120) (DX (.E_ 1 2) [v126] p125.2) (some (Ax,p125.2))).bind λp127=>
 (cond (AO true v120) (DX (.E_ 1 1) [p127.1] p127.2) (some (Ax,p127.2))).bind λp128=>
 (cond (AO true v120) ((BE [.sn,.sn] [(0,1),(1,1)] [p125.1,p128.1]).bind λv136=>some v136) (some Ax)).bind λv129=>
 (cond (AO true v120) ((cf (Ar 20) [v122,v129] p128.2).bind λp135=>cond (CY 140737488355327 p135.2 (CT (AO true v120) ⟨39,(.ld 2),[v121],v122⟩ [])) (
 some p135) none) (some (Ax,p128.2))).bind λp130=>
 (C8 [v120,p130.1,(.b false)]).bind λv131=>
 (cond (AO true v131) ((cf (Ar 7) [] p130.2).bind λp134=>cond (CY 1125899906842623 p134.2 (CT (AO true v120) ⟨39,(.ld 2),[v121],v122⟩ [])) (
 some p134) none) (some (Ax,p130.2))).bind λp132=>
 (C8 [v131,p132.1,(.b false)]).bind λv133=>
 some (v133,p132.2):=
 (NB (Lj rfl) cf 1 _ h).trans (by kernel_rfl)
end
