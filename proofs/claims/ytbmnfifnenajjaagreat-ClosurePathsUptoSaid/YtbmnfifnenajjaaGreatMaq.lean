/- Part of the proof. -/
import Derived.Test.YtbmnfifnenajjaaGreatMai
set_option linter.all false
noncomputable section
namespace Go.Proofs.YtbmnfifnenajjaaGreat
open Go.Fg
section
set_option maxRecDepth 100000
set_option maxHeartbeats 4000000
attribute [local simp] JX JT JY JZ J8 JN JL J5 J4 JR JQ J9 Ka J_ funext_iff
attribute [local irreducible] A6 AM Bl A9 AR AX CO DX Dr DY DE Dq Cb DN FS Ho GF EP Hq FT G_ HJ Gd Js HI Fi GD Gq H_ H9 CX H7 G9 Hn H8 Hm jj xx Option.bind Da G.V LN CL C8 bl Ix DT f1 f2 nx Fw I2 A1 C2 AC Bv C0 DU
variable{cf:Bd}
def sJ:=Tq cf 241 2
def aR:=Tq cf 242 1
def sK:=Tq cf 243 2
def sL:=Tq cf 244 2
def sM:=Tq cf 245 2
def sN:=Tq cf 246 1
def sO:=Tq cf 247 2
def sP:=Tq cf 248 1
def UX:=Tq cf 249 2
def MO:=Tq cf 250 5
def sQ:=Tq cf 251 1
def sR:=Tq cf 252 1
def sS:=Tq cf 253 4
def sT:=Tq cf 254 6
def sU:=Tq cf 255 4
def aS:=Tq cf 256 4
def sV:=Tq cf 257 1
def Oq:=Tq cf 258 2
def UY:=Tq cf 259 3
def Q4:=Tq cf 260 2
def aT:=Tq cf 261 5
def hn:=Tq cf 262 2
def sW:=Tq cf 264 2
theorem r9(cf:Bd)(h:G):xx cf 9 [] h=
 (cf (pos 36) [] h).bind λp0=>
 (Dq 1 1 (p0.2).next [(.i .i64 2)]).bind λp1=>
 (cf (pos 37) [(.b true),p1.2] (G.V p0.2 p1.1)).bind λp2=>
 (cf (pos 12) [p0.1,p2.1] p2.2).bind λp3=>
 (CO 0 [p3.1]).bind λv4=>
 (CO 1 [p3.1]).bind λv5=>
 bl (.p (p3.2).next 0) ((p3.2).V (.I 7 [.sn,.sn,(.i .i64 0),(.i .i64 0),(.i .i64 0),(.i .i64 0),.sn])) λv6 h7=>
 (AX 7 h7 [v6,v4]).bind λp8=>
 (cf (pos 36) [] p8.2).bind λp9=>
 (Dq 1 1 (p9.2).next [(.i .i64 0)]).bind λp10=>
 (cf (pos 37) [(.b true),p10.2] (G.V p9.2 p10.1)).bind λp11=>
 (cf (pos 12) [p9.1,p11.1] p11.2).bind λp12=>
 (CO 0 [p12.1]).bind λv13=>
 (CO 1 [p12.1]).bind λv14=>
 bl (.p (p12.2).next 0) ((p12.2).V (.I 7 [.sn,.sn,(.i .i64 0),(.i .i64 0),(.i .i64 0),(.i .i64 0),.sn])) λv15 h16=>
 (AX 7 h16 [v15,v13]).bind λp17=>
 (cf (pos 36) [] p17.2).bind λp18=>
 (cf (pos 37) [(.b false),.sn] p18.2).bind λp19=>
 (cf (pos 12) [p18.1,p19.1] p19.2).bind λp20=>
 (CO 0 [p20.1]).bind λv21=>
 (CO 1 [p20.1]).bind λv22=>
 bl (.p (p20.2).next 0) ((p20.2).V (.I 7 [.sn,.sn,(.i .i64 0),(.i .i64 0),(.i .i64 0),(.i .i64 0),.sn])) λv23 h24=>
 (AX 7 h24 [v23,v21]).bind λp25=>
 (cf (pos 36) [] p25.2).bind λp26=>
 (Dq 1 1 (p26.2).next [(.i .i64 2)]).bind λp27=>
 (cf (pos 37) [(.b true),p27.2] (G.V p26.2 p27.1)).bind λp28=>
 (Dq 6 1 (p28.2).next [(.i .i64 1),(.i .i64 3),(.i .i64 2),(.i .i64 5),(.i .i64 0),(.i .i64 7)]).bind λp29=>
 (cf (pos 17) [p26.1,p28.1,p29.2] (G.V p28.2 p29.1)).bind λp30=>
 (CO 0 [p30.1]).bind λv31=>
 (CO 1 [p30.1]).bind λv32=>
 (CO 2 [p30.1]).bind λv33=>
 bl (.p (p30.2).next 0) ((p30.2).V (.I 7 [.sn,.sn,(.i .i64 0),(.i .i64 0),(.i .i64 0),(.i .i64 0),.sn])) λv34 h35=>
 (AX 7 h35 [v34,v31]).bind λp36=>
 (A6 .neq [v5,(.i .i64 0)]).bind λv37=>
 (cond (A1 false v37) (some v14) (some AC)).bind λv38=>
 (cond (A1 false v37) ((A6 .neq [v38,(.i .i64 0)]).bind λv118=>some v118) (some AC)).bind λv39=>
 (DY [v37,(.b true),v39]).bind λv40=>
 (cond (A1 false v40) (some v22) (some AC)).bind λv41=>
 (cond (A1 false v40) ((A6 .neq [v41,(.i .i64 0)]).bind λv117=>some v117) (some AC)).bind λv42=>
 (DY [v40,(.b true),v42]).bind λv43=>
 (cond (A1 false v43) (some v33) (some AC)).bind λv44=>
 (cond (A1 false v43) ((A6 .neq [v44,(.i .i64 0)]).bind λv116=>some v116) (some AC)).bind λv45=>
 (DY [v43,(.b true),v45]).bind λv46=>
 (cond (A1 false v46) ((A9 7 p36.2 [v6]).bind λv115=>some v115) (some AC)).bind λv47=>
 (cond (A1 false v46) ((cf (pos 39) [(.i .i64 4)] p36.2).bind λp114=>cond (C0 32767 p114.2 (C2 (A1 false v46) ⟨15,(.ld 7),[v6],v47⟩ [])) (
 some p114) none) (some (AC,p36.2))).bind λp48=>
 (cond (A1 false v46) ((cf (pos 38) [v47,p48.1,(.i .i64 25),(.i .i64 4),(.i .i64 1)] p48.2).bind λp113=>cond (C0 131071 p113.2 (C2 (A1 false v46) ⟨15,(.ld 7),[v6],v47⟩ [])) (
 some p113) none) (some (AC,p48.2))).bind λp49=>
 (cond (A1 false v46) ((DE [p49.1]).bind λv112=>some v112) (some AC)).bind λv50=>
 (DY [v46,(.b true),v50]).bind λv51=>
 (cond (A1 false v51) ((Bl 0 [v15]).bind λv111=>some v111) (some AC)).bind λv52=>
 (cond (A1 false v51) ((Bl 0 [v52]).bind λv110=>some v110) (some AC)).bind λv53=>
 (cond (A1 false v51) ((AM p49.2 [v53]).bind λv109=>some v109) (some AC)).bind λv54=>
 (cond (A1 false v51) ((DX [v54]).bind λv108=>some v108) (some AC)).bind λv55=>
 (cond (A1 false v51) ((A6 .neq [v55,(.i .i64 1)]).bind λv107=>some v107) (some AC)).bind λv56=>
 (DY [v51,(.b true),v56]).bind λv57=>
 (cond (A1 false v57) ((Bl 0 [v15]).bind λv106=>some v106) (some AC)).bind λv58=>
 (cond (A1 false v57) ((Bl 0 [v58]).bind λv105=>some v105) (some AC)).bind λv59=>
 (cond (A1 false v57) ((AM p49.2 [v59]).bind λv104=>some v104) (some AC)).bind λv60=>
 (cond (A1 false v57) ((AR 2 [v60,(.i .i64 0)]).bind λv103=>some v103) (some AC)).bind λv61=>
 (cond (A1 false v57) ((A9 2 p49.2 [v61]).bind λv102=>some v102) (some AC)).bind λv62=>
 (cond (A1 false v57) ((cf (pos 39) [(.i .i64 1)] p49.2).bind λp101=>cond (C0 268435455 p101.2 (C2 (A1 false v57) ⟨32,(.ld 2),[v61],v62⟩ (C2 (A1 false v57) ⟨30,.Cq,[v59],v60⟩ (C2 (A1 false v46) ⟨15,(.ld 7),[v6],v47⟩ [])))) (
 some p101) none) (some (AC,p49.2))).bind λp63=>
 (cond (A1 false v57) ((FT true [0,0] [v62,p63.1]).bind λv100=>some v100) (some AC)).bind λv64=>
 (DY [v57,(.b true),v64]).bind λv65=>
 (cond (A1 false v65) ((A9 7 p63.2 [v23]).bind λv99=>some v99) (some AC)).bind λv66=>
 (cond (A1 false v65) ((Cb [(.i .u8 0),(.i .i64 0)] [] []).bind λv98=>some v98) (some AC)).bind λv67=>
 (cond (A1 false v65) ((cf (pos 38) [v66,v67,(.i .i64 4),(.i .i64 2),(.i .i64 0)] p63.2).bind λp97=>cond (C0 549755813887 p97.2 (C2 (A1 false v65) ⟨37,(.ld 7),[v23],v66⟩ (C2 (A1 false v57) ⟨32,(.ld 2),[v61],v62⟩ (C2 (A1 false v57) ⟨30,.Cq,[v59],v60⟩ (C2 (A1 false v46) ⟨15,(.ld 7),[v6],v47⟩ []))))) (
 some p97) none) (some (AC,p63.2))).bind λp68=>
 (cond (A1 false v65) ((DE [p68.1]).bind λv96=>some v96) (some AC)).bind λv69=>
 (DY [v65,(.b true),v69]).bind λv70=>
 (cond (A1 false v70) ((A9 7 p68.2 [v6]).bind λv95=>some v95) (some AC)).bind λv71=>
 (cond (A1 false v70) ((A9 7 p68.2 [v34]).bind λv94=>some v94) (some AC)).bind λv72=>
 (cond (A1 false v70) ((cf (pos 40) [v71,v72] p68.2).bind λp93=>cond (C0 35184372088831 p93.2 (C2 (A1 false v70) ⟨43,(.ld 7),[v6],v71⟩ (C2 (A1 false v65) ⟨37,(.ld 7),[v23],v66⟩ (C2 (A1 false v57) ⟨32,(.ld 2),[v61],v62⟩ (C2 (A1 false v57) ⟨30,.Cq,[v59],v60⟩ (C2 (A1 false v46) ⟨15,(.ld 7),[v6],v47⟩ [])))))) (
 some p93) none) (some (AC,p68.2))).bind λp73=>
 (cond (A1 false v70) ((DE [p73.1]).bind λv92=>some v92) (some AC)).bind λv74=>
 (DY [v70,(.b true),v74]).bind λv75=>
 (cond (A1 false v75) ((A9 7 p73.2 [v6]).bind λv91=>some v91) (some AC)).bind λv76=>
 (cond (A1 false v75) ((A9 7 p73.2 [v34]).bind λv90=>some v90) (some AC)).bind λv77=>
 (cond (A1 false v75) ((cf (pos 41) [v76,v77] p73.2).bind λp89=>cond (C0 2251799813685247 p89.2 (C2 (A1 false v75) ⟨49,(.ld 7),[v6],v76⟩ (C2 (A1 false v70) ⟨43,(.ld 7),[v6],v71⟩ (C2 (A1 false v65) ⟨37,(.ld 7),[v23],v66⟩ (C2 (A1 false v57) ⟨32,(.ld 2),[v61],v62⟩ (C2 (A1 false v57) ⟨30,.Cq,[v59],v60⟩ (C2 (A1 false v46) ⟨15,(.ld 7),[v6],v47⟩ []))))))) (
 some p89) none) (some (AC,p73.2))).bind λp78=>
 (cond (A1 false v75) ((DE [p78.1]).bind λv88=>some v88) (some AC)).bind λv79=>
 (DY [v75,(.b true),v79]).bind λv80=>
 (cond (A1 false v80) ((A9 7 p78.2 [v6]).bind λv87=>some v87) (some AC)).bind λv81=>
 (cond (A1 false v80) ((A9 7 p78.2 [v15]).bind λv86=>some v86) (some AC)).bind λv82=>
 (cond (A1 false v80) ((cf (pos 41) [v81,v82] p78.2).bind λp85=>cond (C0 144115188075855871 p85.2 (C2 (A1 false v80) ⟨55,(.ld 7),[v6],v81⟩ (C2 (A1 false v75) ⟨49,(.ld 7),[v6],v76⟩ (C2 (A1 false v70) ⟨43,(.ld 7),[v6],v71⟩ (C2 (A1 false v65) ⟨37,(.ld 7),[v23],v66⟩ (C2 (A1 false v57) ⟨32,(.ld 2),[v61],v62⟩ (C2 (A1 false v57) ⟨30,.Cq,[v59],v60⟩ (C2 (A1 false v46) ⟨15,(.ld 7),[v6],v47⟩ [])))))))) (
 some p85) none) (some (AC,p78.2))).bind λp83=>
 (DY [v80,(.b true),p83.1]).bind λv84=>
 Da (
 some ((.b false),p83.2)) (
 jj cf 9 1 [] p83.2) v84:=by kernel_rfl
theorem vL(cf:Bd)(h:G):jj cf 9 1 [] h=
 (cf (pos 36) [] h).bind λp0=>
 (Dq 1 1 (p0.2).next [(.i .i64 2)]).bind λp1=>
 (cf (pos 37) [(.b true),p1.2] (G.V p0.2 p1.1)).bind λp2=>
 (cf (pos 20) [p0.1,p2.1] p2.2).bind λp3=>
 (CO 0 [p3.1]).bind λv4=>
 (CO 1 [p3.1]).bind λv5=>
 (A6 .eql [v5,(.i .i64 0)]).bind λv6=>
 (cond (A1 true v6) (some v4) (some AC)).bind λv7=>
 (cond (A1 true v6) (DX [v7]) (some AC)).bind λv8=>
 (cond (A1 true v6) (A6 .eql [v8,(.i .i64 4)]) (some AC)).bind λv9=>
 (DY [v6,v9,(.b false)]).bind λv10=>
 (cond (A1 true v10) (some v4) (some AC)).bind λv11=>
 (cond (A1 true v10) (AR 1 [v11,(.i .i64 0)]) (some AC)).bind λv12=>
 (cond (A1 true v10) (AM p3.2 [v12]) (some AC)).bind λv13=>
 (cond (A1 true v10) (DX [v13]) (some AC)).bind λv14=>
 (cond (A1 true v10) (A6 .eql [v14,(.i .i64 0)]) (some AC)).bind λv15=>
 (DY [v10,v15,(.b false)]).bind λv16=>
 (cond (A1 true v16) (some v4) (some AC)).bind λv17=>
 (cond (A1 true v16) (AR 1 [v17,(.i .i64 1)]) (some AC)).bind λv18=>
 (cond (A1 true v16) (AM p3.2 [v18]) (some AC)).bind λv19=>
 (cond (A1 true v16) (Cb [(.i .i64 0),(.i .i64 0)] [(0,1)] [(.i .i64 3)]) (some AC)).bind λv20=>
 (cond (A1 true v16) (DT (.Ga 1 2) [v20] p3.2) (some (AC,p3.2))).bind λp21=>
 (cond (A1 true v16) (cf (pos 24) [v19,p21.1] p21.2) (some (AC,p21.2))).bind λp22=>
 (DY [v16,p22.1,(.b false)]).bind λv23=>
 (cond (A1 true v23) (some v4) (some AC)).bind λv24=>
 (cond (A1 true v23) (AR 1 [v24,(.i .i64 2)]) (some AC)).bind λv25=>
 (cond (A1 true v23) (AM p22.2 [v25]) (some AC)).bind λv26=>
 (cond (A1 true v23) (Cb [(.i .i64 0),(.i .i64 0)] [(0,1),(1,1)] [(.i .i64 3),(.i .i64 1)]) (some AC)).bind λv27=>
 (cond (A1 true v23) (DT (.Ga 1 2) [v27] p22.2) (some (AC,p22.2))).bind λp28=>
 (cond (A1 true v23) (cf (pos 24) [v26,p28.1] p28.2) (some (AC,p28.2))).bind λp29=>
 (DY [v23,p29.1,(.b false)]).bind λv30=>
 (cond (A1 true v30) (some v4) (some AC)).bind λv31=>
 (cond (A1 true v30) (AR 1 [v31,(.i .i64 3)]) (some AC)).bind λv32=>
 (cond (A1 true v30) (AM p29.2 [v32]) (some AC)).bind λv33=>
 (cond (A1 true v30) (Cb [(.i .i64 0),(.i .i64 0)] [(0,1),(1,1)] [(.i .i64 3),(.i .i64 2)]) (some AC)).bind λv34=>
 (cond (A1 true v30) (DT (.Ga 1 2) [v34] p29.2) (some (AC,p29.2))).bind λp35=>
 (cond (A1 true v30) (cf (pos 24) [v33,p35.1] p35.2) (some (AC,p35.2))).bind λp36=>
 (DY [v30,p36.1,(.b false)]).bind λv37=>
 some (v37,p36.2):=
 (Nh (LP rfl) cf 1 _ h).trans (by kernel_rfl)
theorem r57(cf:Bd)(a0 a1 a2:F)(h:G):xx cf 57 [a0,a1,a2] h=
 bl (.p (h).next 0) ((h).V (.I (Bq (F.I a1)) (F.I a1))) λv0 h1=>
 (Dr [a0]).bind λv2=>
 (Bl 1 [v2]).bind λv3=>
 (Bl 3 [v3]).bind λv4=>
 (AM h1 [v4]).bind λv5=>
 (A6 .eql [v5,(.i .i64 6000)]).bind λv6=>
 Da (
 (Dr [a0]).bind λv7=>
 (Bl 7 [v7]).bind λv8=>
 (AX 1 h1 [v8,(.i .i64 5)]).bind λp9=>
 some (.AB [],p9.2)) (
 jj cf 57 7 [a2,a0,v0] h1) v6:=by kernel_rfl
theorem b2(cf:Bd)(x2 x0 x4:F)(h:G):jj cf 57 7 [x2,x0,x4] h=
 (Dr [x0]).bind λv0=>
 (Bl 1 [v0]).bind λv1=>
 (Bl 3 [v1]).bind λv2=>
 (AM h [v2]).bind λv3=>
 (A6 .add [v3,(.i .i64 1)]).bind λv4=>
 (Dr [x0]).bind λv5=>
 (Bl 1 [v5]).bind λv6=>
 (Bl 3 [v6]).bind λv7=>
 (AX 1 h [v7,v4]).bind λp8=>
 (Dr [x0]).bind λv9=>
 (Bl 1 [v9]).bind λv10=>
 (Bl 0 [v10]).bind λv11=>
 (AM p8.2 [v11]).bind λv12=>
 (Bl 0 [x4]).bind λv13=>
 (AM p8.2 [v13]).bind λv14=>
 (AR 7 [v12,v14]).bind λv15=>
 (Bl 0 [x4]).bind λv16=>
 (AM p8.2 [v16]).bind λv17=>
 (Bl 1 [x4]).bind λv18=>
 (AM p8.2 [v18]).bind λv19=>
 (cf (pos 106) [x0,v17,v19] p8.2).bind λp20=>
 cond (cond (Bv .Cq [v13] p20.2 v14) (cond (Bv .Cq [v11] p20.2 v12) true false) false) (
 (Dr [v15]).bind λv21=>
 (Bl 6 [v21]).bind λv22=>
 (AM p20.2 [v22]).bind λv23=>
 (Bl 1 [x4]).bind λv24=>
 (AM p20.2 [v24]).bind λv25=>
 (AR 1 [v23,v25]).bind λv26=>
 (AX 1 p20.2 [v26,x2]).bind λp27=>
 (Dr [x0]).bind λv28=>
 (Bl 0 [v28]).bind λv29=>
 (AM p27.2 [v29]).bind λv30=>
 (Dr [v15]).bind λv31=>
 (Bl 0 [v31]).bind λv32=>
 (AM p27.2 [v32]).bind λv33=>
 (AR 5 [v30,v33]).bind λv34=>
 (Bl 2 [v34]).bind λv35=>
 (AM p27.2 [v35]).bind λv36=>
 (Bl 1 [x4]).bind λv37=>
 (AM p27.2 [v37]).bind λv38=>
 (AR 4 [v36,v38]).bind λv39=>
 (A9 4 p27.2 [v39]).bind λv40=>
 (Dr [v15]).bind λv41=>
 (Bl 5 [v41]).bind λv42=>
 (AM p27.2 [v42]).bind λv43=>
 (Bl 1 [x4]).bind λv44=>
 (AM p27.2 [v44]).bind λv45=>
 (AR 1 [v43,v45]).bind λv46=>
 (AM p27.2 [v46]).bind λv47=>
 bl (.p (p27.2).next 0) ((p27.2).V (.I 4 [(.i .u8 0),(.s []),(.i .i64 0),.sn])) λv48 h49=>
 (AX 4 h49 [v48,v40]).bind λp50=>
 cond (cond (Bv .Cq [v46] p50.2 v47) (cond (Bv .Cq [v44] p50.2 v45) (cond (Bv .Cq [v42] p50.2 v43) true false) false) false) (
 (cf (pos 107) [p20.1] p50.2).bind λp51=>
 bl (.p (p51.2).next 0) ((p51.2).V (.I 2 [(.i .u8 0),(.i .i64 0)])) λv52 h53=>
 (AX 2 h53 [v52,p51.1]).bind λp54=>
 (Bl 0 [v52]).bind λv55=>
 (AM p54.2 [v55]).bind λv56=>
 (A6 .eql [v56,(.i .u8 5)]).bind λv57=>
 (Bl 0 [v48]).bind λv58=>
 (AM p54.2 [v58]).bind λv59=>
 (A6 .eql [v59,(.i .u8 1)]).bind λv60=>
 Da (
 jj cf 57 6 [v60,v57,v52,v59,x0,v48,x4,v47,p20.1] p54.2) (
 (A6 .eql [v59,(.i .u8 2)]).bind λv61=>
 Da (
 jj cf 57 6 [v61,v57,v52,v59,x0,v48,x4,v47,p20.1] p54.2) (
 (A6 .eql [v59,(.i .u8 3)]).bind λv62=>
 jj cf 57 6 [v62,v57,v52,v59,x0,v48,x4,v47,p20.1] p54.2) v61) v60) none) none:=
 (Nh (LP rfl) cf 7 _ h).trans (by kernel_rfl)
theorem Lg(cf:Bd)(x85 x11 x10 x84 x0 x8 x4 x9 x7:F)(h:G):jj cf 57 6 [x85,x11,x10,x84,x0,x8,x4,x9,x7] h=
 Da (
 (A9 4 h [x8]).bind λv0=>
 (cf (pos 108) [v0] h).bind λp1=>
 (AR 2 [x9,(.i .i64 0)]).bind λv2=>
 (AX 2 p1.2 [v2,p1.1]).bind λp3=>
 Da (
 (A9 2 p3.2 [x10]).bind λv4=>
 (AR 2 [x9,(.i .i64 0)]).bind λv5=>
 (AX 2 p3.2 [v5,v4]).bind λp6=>
 some (.AB [],p6.2)) (
 some (.AB [],p3.2)) x11) (
 (A6 .eql [x84,(.i .u8 4)]).bind λv7=>
 Da (
 (Bl 1 [x8]).bind λv8=>
 (AM h [v8]).bind λv9=>
 (cf (pos 109) [v9,x7] h).bind λp10=>
 (CO 0 [p10.1]).bind λv11=>
 (CO 1 [p10.1]).bind λv12=>
 (AR 2 [x9,(.i .i64 0)]).bind λv13=>
 (AX 2 p10.2 [v13,v11]).bind λp14=>
 some (.AB [],p14.2)) (
 (A6 .eql [x84,(.i .u8 5)]).bind λv15=>
 Da (
 (AR 2 [x7,(.i .i64 0)]).bind λv16=>
 (A9 2 h [v16]).bind λv17=>
 (AR 2 [x7,(.i .i64 1)]).bind λv18=>
 (A9 2 h [v18]).bind λv19=>
 (cf (pos 110) [v17,v19] h).bind λp20=>
 (CO 0 [p20.1]).bind λv21=>
 (CO 1 [p20.1]).bind λv22=>
 bl (.p (p20.2).next 0) ((p20.2).V (.I 2 [(.i .u8 0),(.i .i64 0)])) λv23 h24=>
 (AX 2 h24 [v23,v22]).bind λp25=>
 (A9 2 p25.2 [v23]).bind λv26=>
 (AR 2 [x9,v21]).bind λv27=>
 (AX 2 p25.2 [v27,v26]).bind λp28=>
 some (.AB [],p28.2)) (
 (A6 .eql [x84,(.i .u8 6)]).bind λv29=>
 Da (
 (AR 2 [x7,(.i .i64 0)]).bind λv30=>
 (A9 2 h [v30]).bind λv31=>
 (AR 2 [x9,(.i .i64 0)]).bind λv32=>
 (AX 2 h [v32,v31]).bind λp33=>
 (AR 2 [x7,(.i .i64 0)]).bind λv34=>
 (Bl 0 [v34]).bind λv35=>
 (AM p33.2 [v35]).bind λv36=>
 (A6 .eql [v36,(.i .u8 0)]).bind λv37=>
 Da (
 (AR 2 [x7,(.i .i64 1)]).bind λv38=>
 (A9 2 p33.2 [v38]).bind λv39=>
 (AR 2 [x9,(.i .i64 0)]).bind λv40=>
 (AX 2 p33.2 [v40,v39]).bind λp41=>
 some (.AB [],p41.2)) (
 some (.AB [],p33.2)) v37) (
 (A6 .eql [x84,(.i .u8 7)]).bind λv42=>
 Da (
 (AR 2 [x7,(.i .i64 0)]).bind λv43=>
 (A9 2 h [v43]).bind λv44=>
 (AR 2 [x9,(.i .i64 0)]).bind λv45=>
 (AX 2 h [v45,v44]).bind λp46=>
 some (.AB [],p46.2)) (
 (A6 .eql [x84,(.i .u8 14)]).bind λv47=>
 Da (
 (AR 2 [x7,(.i .i64 0)]).bind λv48=>
 (A9 2 h [v48]).bind λv49=>
 (cf (pos 111) [v49] h).bind λp50=>
 (AR 2 [x9,(.i .i64 0)]).bind λv51=>
 (AX 2 p50.2 [v51,p50.1]).bind λp52=>
 some (.AB [],p52.2)) (
 (A6 .eql [x84,(.i .u8 13)]).bind λv53=>
 Da (
 (Dr [x0]).bind λv54=>
 (Bl 1 [v54]).bind λv55=>
 (Bl 1 [v55]).bind λv56=>
 (A9 1 h [v56]).bind λv57=>
 (AR 2 [x7,(.i .i64 0)]).bind λv58=>
 (A9 2 h [v58]).bind λv59=>
 (cf (pos 112) [v57,v59] h).bind λp60=>
 (AR 2 [x9,(.i .i64 0)]).bind λv61=>
 (AX 2 p60.2 [v61,p60.1]).bind λp62=>
 some (.AB [],p62.2)) (
 (A6 .eql [x84,(.i .u8 10)]).bind λv63=>
 Da (
 (Dr [x0]).bind λv64=>
 (Bl 1 [v64]).bind λv65=>
 (Bl 1 [v65]).bind λv66=>
 (A9 1 h [v66]).bind λv67=>
 (AR 2 [x7,(.i .i64 0)]).bind λv68=>
 (A9 2 h [v68]).bind λv69=>
 (cf (pos 113) [v67,v69] h).bind λp70=>
 (CO 0 [p70.1]).bind λv71=>
 (CO 1 [p70.1]).bind λv72=>
 (CO 2 [p70.1]).bind λv73=>
 (Dr [x0]).bind λv74=>
 (Bl 1 [v74]).bind λv75=>
 (Bl 1 [v75]).bind λv76=>
 (AX 1 p70.2 [v76,v71]).bind λp77=>
 (AR 2 [x9,(.i .i64 0)]).bind λv78=>
 (AX 2 p77.2 [v78,v72]).bind λp79=>
 (Dr [x0]).bind λv80=>
 (Bl 7 [v80]).bind λv81=>
 (AX 1 p79.2 [v81,v73]).bind λp82=>
 some (.AB [],p82.2)) (
 (A6 .eql [x84,(.i .u8 11)]).bind λv83=>
 Da (
 (cf (pos 114) [x0,x7] h).bind λp84=>
 some (.AB [],p84.2)) (
 (A6 .eql [x84,(.i .u8 12)]).bind λv85=>
 Da (
 (Dr [x0]).bind λv86=>
 (Bl 1 [v86]).bind λv87=>
 (Bl 1 [v87]).bind λv88=>
 (A9 1 h [v88]).bind λv89=>
 (AR 2 [x7,(.i .i64 0)]).bind λv90=>
 (A9 2 h [v90]).bind λv91=>
 (AR 2 [x7,(.i .i64 1)]).bind λv92=>
 (A9 2 h [v92]).bind λv93=>
 (Bl 0 [x4]).bind λv94=>
 (AM h [v94]).bind λv95=>
 (Bl 1 [x4]).bind λv96=>
 (AM h [v96]).bind λv97=>
 (cf (pos 116) [v95,v97] h).bind λp98=>
 cond (cond (Bv (.ld 2) [v92] p98.2 v93) (cond (Bv (.ld 2) [v90] p98.2 v91) (cond (Bv (.ld 1) [v88] p98.2 v89) true false) false) false) (
 (cf (pos 115) [v89,v91,v93,p98.1] p98.2).bind λp99=>
 (CO 0 [p99.1]).bind λv100=>
 (CO 1 [p99.1]).bind λv101=>
 (CO 2 [p99.1]).bind λv102=>
 (Dr [x0]).bind λv103=>
 (Bl 1 [v103]).bind λv104=>
 (Bl 1 [v104]).bind λv105=>
 (AX 1 p99.2 [v105,v100]).bind λp106=>
 (AR 2 [x9,(.i .i64 0)]).bind λv107=>
 (AX 2 p106.2 [v107,v101]).bind λp108=>
 (Dr [x0]).bind λv109=>
 (Bl 7 [v109]).bind λv110=>
 (AX 1 p108.2 [v110,v102]).bind λp111=>
 some (.AB [],p111.2)) none) (
 (A6 .eql [x84,(.i .u8 8)]).bind λv112=>
 Da (
 jj cf 57 5 [v112,x0,x8,x4,x9,x7] h) (
 (A6 .eql [x84,(.i .u8 9)]).bind λv113=>
 jj cf 57 5 [v113,x0,x8,x4,x9,x7] h) v112) v85) v83) v63) v53) v47) v42) v29) v15) v7) x85:=
 (Nh (LP rfl) cf 6 _ h).trans (by kernel_rfl)
theorem b1(cf:Bd)(x230 x0 x8 x4 x9 x7:F)(h:G):jj cf 57 5 [x230,x0,x8,x4,x9,x7] h=
 Da (
 (AR 2 [x7,(.i .i64 0)]).bind λv0=>
 (Bl 0 [v0]).bind λv1=>
 (AM h [v1]).bind λv2=>
 (A6 .neq [v2,(.i .u8 5)]).bind λv3=>
 Da (
 (Dr [x0]).bind λv4=>
 (Bl 0 [v4]).bind λv5=>
 (AM h [v5]).bind λv6=>
 (Bl 1 [x8]).bind λv7=>
 (AM h [v7]).bind λv8=>
 (cf (pos 73) [v6,v8] h).bind λp9=>
 (Bl 0 [x4]).bind λv10=>
 (AM p9.2 [v10]).bind λv11=>
 cond (cond (Bv .Cq [v10] h v11) true false) (
 (Bl 1 [x4]).bind λv12=>
 (AM p9.2 [v12]).bind λv13=>
 cond (cond (Bv .Cq [v12] h v13) true false) (
 (AR 2 [x7,(.i .i64 0)]).bind λv14=>
 (A9 2 p9.2 [v14]).bind λv15=>
 cond (cond (Bv (.ld 2) [v14] h v15) true false) (
 (cf (pos 75) [x0,p9.1,v11,v13,(.i .i64 0),v15] p9.2).bind λp16=>
 some (.AB [],p16.2)) none) none) none) (
 jj cf 57 4 [x9,x7] h) v3) (
 some (.AB [],h)) x230:=
 (Nh (LP rfl) cf 5 _ h).trans (by kernel_rfl)
theorem vK(cf:Bd)(x9 x7:F)(h:G):jj cf 57 4 [x9,x7] h=
 jj cf 57 1 [x9,x7,(.i .i64 0)] h:=
 (Nh (LP rfl) cf 4 _ h).trans (by kernel_rfl)
theorem i3(cf:Bd)(x9 x7 x14:F)(h:G):jj cf 57 1 [x9,x7,x14] h=
 (DX [x9]).bind λv0=>
 (A6 .lss [x14,v0]).bind λv1=>
 Da (
 jj cf 57 3 [x14,x9,x7] h) (
 some (.AB [],h)) v1:=
 (Nh (LP rfl) cf 1 _ h).trans (by kernel_rfl)
theorem vJ(cf:Bd)(x14 x9 x7:F)(h:G):jj cf 57 3 [x14,x9,x7] h=
 (AR 2 [x7,(.i .i64 0)]).bind λv0=>
 (A9 2 h [v0]).bind λv1=>
 (AR 2 [x9,x14]).bind λv2=>
 (AX 2 h [v2,v1]).bind λp3=>
 jj cf 57 2 [x14,x9,x7] p3.2:=
 (Nh (LP rfl) cf 3 _ h).trans (by kernel_rfl)
theorem vI(cf:Bd)(x14 x9 x7:F)(h:G):jj cf 57 2 [x14,x9,x7] h=
 (A6 .add [x14,(.i .i64 1)]).bind λv0=>
 jj cf 57 1 [x9,x7,v0] h:=
 (Nh (LP rfl) cf 2 _ h).trans (by kernel_rfl)
theorem r201(cf:Bd)(a0 a1 a2 a3 a4:F)(h:G):xx cf 201 [a0,a1,a2,a3,a4] h=
 bl (.p (h).next 0) ((h).V (.I (Bq (F.I a3)) (F.I a3))) λv0 h1=>
 bl (.p (h1).next 0) ((h1).V (.I (Bq (F.I a4)) (F.I a4))) λv2 h3=>
 (Dr [a0]).bind λv4=>
 (Bl 2 [v4]).bind λv5=>
 (AM h3 [v5]).bind λv6=>
 (Dr [a1]).bind λv7=>
 (Bl 0 [v7]).bind λv8=>
 (Bl 1 [v8]).bind λv9=>
 (AM h3 [v9]).bind λv10=>
 (AR 1 [v6,v10]).bind λv11=>
 (AM h3 [v11]).bind λv12=>
 (Dr [v12]).bind λv13=>
 (Bl 8 [v13]).bind λv14=>
 (AM h3 [v14]).bind λv15=>
 (Dr [a1]).bind λv16=>
 (Bl 0 [v16]).bind λv17=>
 (Bl 2 [v17]).bind λv18=>
 (AM h3 [v18]).bind λv19=>
 (AR 1 [v15,v19]).bind λv20=>
 (AM h3 [v20]).bind λv21=>
 (AR 3 [v21,a2]).bind λv22=>
 (Dr [v22]).bind λv23=>
 (A9 3 h3 [v23]).bind λv24=>
 (A9 3 h3 [v2]).bind λv25=>
 (FT false [0,1,1] [v24,v25]).bind λv26=>
 Da (
 some (.AB [(.b false),(.i .i64 0)],h3)) (
 (Dr [v22]).bind λv27=>
 (Bl 2 [v27]).bind λv28=>
 (AM h3 [v28]).bind λv29=>
 Da (
 some (.AB [(.b false),(.i .i64 6)],h3)) (
 (A9 3 h3 [v2]).bind λv30=>
 (Dr [v22]).bind λv31=>
 (AX 3 h3 [v31,v30]).bind λp32=>
 jj cf 201 1 [v12,a1,a2,v0] p32.2) v29) v26:=by kernel_rfl
theorem vy(cf:Bd)(x12 x1 x2 x8:F)(h:G):jj cf 201 1 [x12,x1,x2,x8] h=
 (Dr [x12]).bind λv0=>
 (Bl 0 [v0]).bind λv1=>
 (Bl 5 [v1]).bind λv2=>
 (AM h [v2]).bind λv3=>
 (Dr [x1]).bind λv4=>
 (Bl 0 [v4]).bind λv5=>
 (Bl 2 [v5]).bind λv6=>
 (AM h [v6]).bind λv7=>
 (AR 1 [v3,v7]).bind λv8=>
 (AM h [v8]).bind λv9=>
 (A9 2 h [x8]).bind λv10=>
 (AR 2 [v9,x2]).bind λv11=>
 (AX 2 h [v11,v10]).bind λp12=>
 some (.AB [(.b true),(.i .i64 0)],p12.2):=
 (Nh (LP rfl) cf 1 _ h).trans (by kernel_rfl)
end
