/- Part of the proof. -/
import Derived.Test.YtmnfpdedgnfeiaaGreatMai
set_option linter.all false
noncomputable section
namespace Go.Proofs.YtmnfpdedgnfeiaaGreat
open Go.Fg
section
set_option maxRecDepth 100000
set_option maxHeartbeats 4000000
attribute [local simp] J9 J5 J_ Ka Kl J0 JY Ki Kh J4 J3 Kq Ks Kr funext_iff
attribute [local irreducible] A7 AW Bt Bf AZ A1 Ca Ea DT C8 DW CB BE Eo F4 Hy Hz E7 HN F5 Hx H2 Gi JB H1 Fx G1 GO Ii Ih De If Hw HM Ig HL jj xx Option.bind Dw G.V LN CL Du bl IF DX f1 f2 nx FK I4 AO CT Ax BV CY Er
variable{cf:Bh}
def wt:=Tq cf 230 0
def wu:=Tq cf 231 1
def Wb:=Tq cf 232 2
def NF:=Tq cf 233 5
def wv:=Tq cf 234 1
def ww:=Tq cf 235 1
def wx:=Tq cf 236 4
def wy:=Tq cf 237 6
def wz:=Tq cf 238 4
def c0:=Tq cf 239 4
def wA:=Tq cf 240 1
def Po:=Tq cf 241 2
def Wc:=Tq cf 242 3
def Sm:=Tq cf 243 2
def c1:=Tq cf 244 5
theorem r7(cf:Bh)(h:G):xx cf 7 [] h=
 (cf (Ar 16) [] h).bind λp0=>
 (CB 1 1 (p0.2).next [(.i .i64 2)]).bind λp1=>
 (cf (Ar 17) [(.b true),p1.2] (G.V p0.2 p1.1)).bind λp2=>
 (cf (Ar 8) [p0.1,p2.1] p2.2).bind λp3=>
 (Ca 0 [p3.1]).bind λv4=>
 (Ca 1 [p3.1]).bind λv5=>
 bl (.p (p3.2).next 0) ((p3.2).V (.I 7 [.sn,.sn,(.i .i64 0),(.i .i64 0),(.i .i64 0),(.i .i64 0),.sn])) λv6 h7=>
 (A1 7 h7 [v6,v4]).bind λp8=>
 (cf (Ar 16) [] p8.2).bind λp9=>
 (CB 1 1 (p9.2).next [(.i .i64 0)]).bind λp10=>
 (cf (Ar 17) [(.b true),p10.2] (G.V p9.2 p10.1)).bind λp11=>
 (cf (Ar 8) [p9.1,p11.1] p11.2).bind λp12=>
 (Ca 0 [p12.1]).bind λv13=>
 (Ca 1 [p12.1]).bind λv14=>
 bl (.p (p12.2).next 0) ((p12.2).V (.I 7 [.sn,.sn,(.i .i64 0),(.i .i64 0),(.i .i64 0),(.i .i64 0),.sn])) λv15 h16=>
 (A1 7 h16 [v15,v13]).bind λp17=>
 (cf (Ar 16) [] p17.2).bind λp18=>
 (cf (Ar 17) [(.b false),.sn] p18.2).bind λp19=>
 (cf (Ar 8) [p18.1,p19.1] p19.2).bind λp20=>
 (Ca 0 [p20.1]).bind λv21=>
 (Ca 1 [p20.1]).bind λv22=>
 bl (.p (p20.2).next 0) ((p20.2).V (.I 7 [.sn,.sn,(.i .i64 0),(.i .i64 0),(.i .i64 0),(.i .i64 0),.sn])) λv23 h24=>
 (A1 7 h24 [v23,v21]).bind λp25=>
 (cf (Ar 16) [] p25.2).bind λp26=>
 (CB 1 1 (p26.2).next [(.i .i64 2)]).bind λp27=>
 (cf (Ar 17) [(.b true),p27.2] (G.V p26.2 p27.1)).bind λp28=>
 (CB 6 1 (p28.2).next [(.i .i64 1),(.i .i64 3),(.i .i64 2),(.i .i64 5),(.i .i64 0),(.i .i64 7)]).bind λp29=>
 (cf (Ar 11) [p26.1,p28.1,p29.2] (G.V p28.2 p29.1)).bind λp30=>
 (Ca 0 [p30.1]).bind λv31=>
 (Ca 1 [p30.1]).bind λv32=>
 (Ca 2 [p30.1]).bind λv33=>
 bl (.p (p30.2).next 0) ((p30.2).V (.I 7 [.sn,.sn,(.i .i64 0),(.i .i64 0),(.i .i64 0),(.i .i64 0),.sn])) λv34 h35=>
 (A1 7 h35 [v34,v31]).bind λp36=>
 (A7 .neq [v5,(.i .i64 0)]).bind λv37=>
 (cond (AO false v37) (some v14) (some Ax)).bind λv38=>
 (cond (AO false v37) ((A7 .neq [v38,(.i .i64 0)]).bind λv118=>some v118) (some Ax)).bind λv39=>
 (C8 [v37,(.b true),v39]).bind λv40=>
 (cond (AO false v40) (some v22) (some Ax)).bind λv41=>
 (cond (AO false v40) ((A7 .neq [v41,(.i .i64 0)]).bind λv117=>some v117) (some Ax)).bind λv42=>
 (C8 [v40,(.b true),v42]).bind λv43=>
 (cond (AO false v43) (some v33) (some Ax)).bind λv44=>
 (cond (AO false v43) ((A7 .neq [v44,(.i .i64 0)]).bind λv116=>some v116) (some Ax)).bind λv45=>
 (C8 [v43,(.b true),v45]).bind λv46=>
 (cond (AO false v46) ((Bf 7 p36.2 [v6]).bind λv115=>some v115) (some Ax)).bind λv47=>
 (cond (AO false v46) ((cf (Ar 21) [(.i .i64 4)] p36.2).bind λp114=>cond (CY 32767 p114.2 (CT (AO false v46) ⟨15,(.ld 7),[v6],v47⟩ [])) (
 some p114) none) (some (Ax,p36.2))).bind λp48=>
 (cond (AO false v46) ((cf (Ar 25) [v47,p48.1,(.i .i64 25),(.i .i64 4),(.i .i64 1)] p48.2).bind λp113=>cond (CY 131071 p113.2 (CT (AO false v46) ⟨15,(.ld 7),[v6],v47⟩ [])) (
 some p113) none) (some (Ax,p48.2))).bind λp49=>
 (cond (AO false v46) ((DW [p49.1]).bind λv112=>some v112) (some Ax)).bind λv50=>
 (C8 [v46,(.b true),v50]).bind λv51=>
 (cond (AO false v51) ((Bt 0 [v15]).bind λv111=>some v111) (some Ax)).bind λv52=>
 (cond (AO false v51) ((Bt 0 [v52]).bind λv110=>some v110) (some Ax)).bind λv53=>
 (cond (AO false v51) ((AW p49.2 [v53]).bind λv109=>some v109) (some Ax)).bind λv54=>
 (cond (AO false v51) ((Ea [v54]).bind λv108=>some v108) (some Ax)).bind λv55=>
 (cond (AO false v51) ((A7 .neq [v55,(.i .i64 1)]).bind λv107=>some v107) (some Ax)).bind λv56=>
 (C8 [v51,(.b true),v56]).bind λv57=>
 (cond (AO false v57) ((Bt 0 [v15]).bind λv106=>some v106) (some Ax)).bind λv58=>
 (cond (AO false v57) ((Bt 0 [v58]).bind λv105=>some v105) (some Ax)).bind λv59=>
 (cond (AO false v57) ((AW p49.2 [v59]).bind λv104=>some v104) (some Ax)).bind λv60=>
 (cond (AO false v57) ((AZ 2 [v60,(.i .i64 0)]).bind λv103=>some v103) (some Ax)).bind λv61=>
 (cond (AO false v57) ((Bf 2 p49.2 [v61]).bind λv102=>some v102) (some Ax)).bind λv62=>
 (cond (AO false v57) ((cf (Ar 21) [(.i .i64 1)] p49.2).bind λp101=>cond (CY 268435455 p101.2 (CT (AO false v57) ⟨32,(.ld 2),[v61],v62⟩ (CT (AO false v57) ⟨30,.Dg,[v59],v60⟩ (CT (AO false v46) ⟨15,(.ld 7),[v6],v47⟩ [])))) (
 some p101) none) (some (Ax,p49.2))).bind λp63=>
 (cond (AO false v57) ((F5 true [0,0] [v62,p63.1]).bind λv100=>some v100) (some Ax)).bind λv64=>
 (C8 [v57,(.b true),v64]).bind λv65=>
 (cond (AO false v65) ((Bf 7 p63.2 [v23]).bind λv99=>some v99) (some Ax)).bind λv66=>
 (cond (AO false v65) ((BE [(.i .u8 0),(.i .i64 0)] [] []).bind λv98=>some v98) (some Ax)).bind λv67=>
 (cond (AO false v65) ((cf (Ar 25) [v66,v67,(.i .i64 4),(.i .i64 2),(.i .i64 0)] p63.2).bind λp97=>cond (CY 549755813887 p97.2 (CT (AO false v65) ⟨37,(.ld 7),[v23],v66⟩ (CT (AO false v57) ⟨32,(.ld 2),[v61],v62⟩ (CT (AO false v57) ⟨30,.Dg,[v59],v60⟩ (CT (AO false v46) ⟨15,(.ld 7),[v6],v47⟩ []))))) (
 some p97) none) (some (Ax,p63.2))).bind λp68=>
 (cond (AO false v65) ((DW [p68.1]).bind λv96=>some v96) (some Ax)).bind λv69=>
 (C8 [v65,(.b true),v69]).bind λv70=>
 (cond (AO false v70) ((Bf 7 p68.2 [v6]).bind λv95=>some v95) (some Ax)).bind λv71=>
 (cond (AO false v70) ((Bf 7 p68.2 [v34]).bind λv94=>some v94) (some Ax)).bind λv72=>
 (cond (AO false v70) ((cf (Ar 12) [v71,v72] p68.2).bind λp93=>cond (CY 35184372088831 p93.2 (CT (AO false v70) ⟨43,(.ld 7),[v6],v71⟩ (CT (AO false v65) ⟨37,(.ld 7),[v23],v66⟩ (CT (AO false v57) ⟨32,(.ld 2),[v61],v62⟩ (CT (AO false v57) ⟨30,.Dg,[v59],v60⟩ (CT (AO false v46) ⟨15,(.ld 7),[v6],v47⟩ [])))))) (
 some p93) none) (some (Ax,p68.2))).bind λp73=>
 (cond (AO false v70) ((DW [p73.1]).bind λv92=>some v92) (some Ax)).bind λv74=>
 (C8 [v70,(.b true),v74]).bind λv75=>
 (cond (AO false v75) ((Bf 7 p73.2 [v6]).bind λv91=>some v91) (some Ax)).bind λv76=>
 (cond (AO false v75) ((Bf 7 p73.2 [v34]).bind λv90=>some v90) (some Ax)).bind λv77=>
 (cond (AO false v75) ((cf (Ar 13) [v76,v77] p73.2).bind λp89=>cond (CY 2251799813685247 p89.2 (CT (AO false v75) ⟨49,(.ld 7),[v6],v76⟩ (CT (AO false v70) ⟨43,(.ld 7),[v6],v71⟩ (CT (AO false v65) ⟨37,(.ld 7),[v23],v66⟩ (CT (AO false v57) ⟨32,(.ld 2),[v61],v62⟩ (CT (AO false v57) ⟨30,.Dg,[v59],v60⟩ (CT (AO false v46) ⟨15,(.ld 7),[v6],v47⟩ []))))))) (
 some p89) none) (some (Ax,p73.2))).bind λp78=>
 (cond (AO false v75) ((DW [p78.1]).bind λv88=>some v88) (some Ax)).bind λv79=>
 (C8 [v75,(.b true),v79]).bind λv80=>
 (cond (AO false v80) ((Bf 7 p78.2 [v6]).bind λv87=>some v87) (some Ax)).bind λv81=>
 (cond (AO false v80) ((Bf 7 p78.2 [v15]).bind λv86=>some v86) (some Ax)).bind λv82=>
 (cond (AO false v80) ((cf (Ar 13) [v81,v82] p78.2).bind λp85=>cond (CY 144115188075855871 p85.2 (CT (AO false v80) ⟨55,(.ld 7),[v6],v81⟩ (CT (AO false v75) ⟨49,(.ld 7),[v6],v76⟩ (CT (AO false v70) ⟨43,(.ld 7),[v6],v71⟩ (CT (AO false v65) ⟨37,(.ld 7),[v23],v66⟩ (CT (AO false v57) ⟨32,(.ld 2),[v61],v62⟩ (CT (AO false v57) ⟨30,.Dg,[v59],v60⟩ (CT (AO false v46) ⟨15,(.ld 7),[v6],v47⟩ [])))))))) (
 some p85) none) (some (Ax,p78.2))).bind λp83=>
 (C8 [v80,(.b true),p83.1]).bind λv84=>
 Dw (
 some ((.b false),p83.2)) (
 jj cf 7 1 [] p83.2) v84:=by kernel_rfl
theorem AcL(cf:Bh)(h:G):jj cf 7 1 [] h=
 (cf (Ar 16) [] h).bind λp0=>
 (CB 1 1 (p0.2).next [(.i .i64 2)]).bind λp1=>
 (cf (Ar 17) [(.b true),p1.2] (G.V p0.2 p1.1)).bind λp2=>
 (cf (Ar 26) [p0.1,p2.1] p2.2).bind λp3=>
 (Ca 0 [p3.1]).bind λv4=>
 (Ca 1 [p3.1]).bind λv5=>
 (A7 .eql [v5,(.i .i64 0)]).bind λv6=>
 (cond (AO true v6) (some v4) (some Ax)).bind λv7=>
 (cond (AO true v6) (Ea [v7]) (some Ax)).bind λv8=>
 (cond (AO true v6) (A7 .eql [v8,(.i .i64 4)]) (some Ax)).bind λv9=>
 (C8 [v6,v9,(.b false)]).bind λv10=>
 (cond (AO true v10) (some v4) (some Ax)).bind λv11=>
 (cond (AO true v10) (AZ 1 [v11,(.i .i64 0)]) (some Ax)).bind λv12=>
 (cond (AO true v10) (AW p3.2 [v12]) (some Ax)).bind λv13=>
 (cond (AO true v10) (Ea [v13]) (some Ax)).bind λv14=>
 (cond (AO true v10) (A7 .eql [v14,(.i .i64 0)]) (some Ax)).bind λv15=>
 (C8 [v10,v15,(.b false)]).bind λv16=>
 (cond (AO true v16) (some v4) (some Ax)).bind λv17=>
 (cond (AO true v16) (AZ 1 [v17,(.i .i64 1)]) (some Ax)).bind λv18=>
 (cond (AO true v16) (AW p3.2 [v18]) (some Ax)).bind λv19=>
 (cond (AO true v16) (BE [(.i .i64 0),(.i .i64 0)] [(0,1)] [(.i .i64 3)]) (some Ax)).bind λv20=>
 (cond (AO true v16) (DX (.E_ 1 2) [v20] p3.2) (some (Ax,p3.2))).bind λp21=>
 (cond (AO true v16) (cf (Ar 27) [v19,p21.1] p21.2) (some (Ax,p21.2))).bind λp22=>
 (C8 [v16,p22.1,(.b false)]).bind λv23=>
 (cond (AO true v23) (some v4) (some Ax)).bind λv24=>
 (cond (AO true v23) (AZ 1 [v24,(.i .i64 2)]) (some Ax)).bind λv25=>
 (cond (AO true v23) (AW p22.2 [v25]) (some Ax)).bind λv26=>
 (cond (AO true v23) (BE [(.i .i64 0),(.i .i64 0)] [(0,1),(1,1)] [(.i .i64 3),(.i .i64 1)]) (some Ax)).bind λv27=>
 (cond (AO true v23) (DX (.E_ 1 2) [v27] p22.2) (some (Ax,p22.2))).bind λp28=>
 (cond (AO true v23) (cf (Ar 27) [v26,p28.1] p28.2) (some (Ax,p28.2))).bind λp29=>
 (C8 [v23,p29.1,(.b false)]).bind λv30=>
 (cond (AO true v30) (some v4) (some Ax)).bind λv31=>
 (cond (AO true v30) (AZ 1 [v31,(.i .i64 3)]) (some Ax)).bind λv32=>
 (cond (AO true v30) (AW p29.2 [v32]) (some Ax)).bind λv33=>
 (cond (AO true v30) (BE [(.i .i64 0),(.i .i64 0)] [(0,1),(1,1)] [(.i .i64 3),(.i .i64 2)]) (some Ax)).bind λv34=>
 (cond (AO true v30) (DX (.E_ 1 2) [v34] p29.2) (some (Ax,p29.2))).bind λp35=>
 (cond (AO true v30) (cf (Ar 27) [v33,p35.1] p35.2) (some (Ax,p35.2))).bind λp36=>
 (C8 [v30,p36.1,(.b false)]).bind λv37=>
 some (v37,p36.2):=
 (NB (Lj rfl) cf 1 _ h).trans (by kernel_rfl)
theorem r91(cf:Bh)(a0 a1 a2:F)(h:G):xx cf 91 [a0,a1,a2] h=
 bl (.p (h).next 0) ((h).V (.I (BK (F.I a1)) (F.I a1))) λv0 h1=>
 (DT [a0]).bind λv2=>
 (Bt 1 [v2]).bind λv3=>
 (Bt 3 [v3]).bind λv4=>
 (AW h1 [v4]).bind λv5=>
 (A7 .eql [v5,(.i .i64 6000)]).bind λv6=>
 Dw (
 (DT [a0]).bind λv7=>
 (Bt 7 [v7]).bind λv8=>
 (A1 1 h1 [v8,(.i .i64 5)]).bind λp9=>
 some (.AC [],p9.2)) (
 jj cf 91 7 [a2,a0,v0] h1) v6:=by kernel_rfl
theorem d7(cf:Bh)(x2 x0 x4:F)(h:G):jj cf 91 7 [x2,x0,x4] h=
 (DT [x0]).bind λv0=>
 (Bt 1 [v0]).bind λv1=>
 (Bt 3 [v1]).bind λv2=>
 (AW h [v2]).bind λv3=>
 (A7 .add [v3,(.i .i64 1)]).bind λv4=>
 (DT [x0]).bind λv5=>
 (Bt 1 [v5]).bind λv6=>
 (Bt 3 [v6]).bind λv7=>
 (A1 1 h [v7,v4]).bind λp8=>
 (DT [x0]).bind λv9=>
 (Bt 1 [v9]).bind λv10=>
 (Bt 0 [v10]).bind λv11=>
 (AW p8.2 [v11]).bind λv12=>
 (Bt 0 [x4]).bind λv13=>
 (AW p8.2 [v13]).bind λv14=>
 (AZ 7 [v12,v14]).bind λv15=>
 (Bt 0 [x4]).bind λv16=>
 (AW p8.2 [v16]).bind λv17=>
 (Bt 1 [x4]).bind λv18=>
 (AW p8.2 [v18]).bind λv19=>
 (cf (Ar 136) [x0,v17,v19] p8.2).bind λp20=>
 cond (cond (BV .Dg [v13] p20.2 v14) (cond (BV .Dg [v11] p20.2 v12) true false) false) (
 (DT [v15]).bind λv21=>
 (Bt 6 [v21]).bind λv22=>
 (AW p20.2 [v22]).bind λv23=>
 (Bt 1 [x4]).bind λv24=>
 (AW p20.2 [v24]).bind λv25=>
 (AZ 1 [v23,v25]).bind λv26=>
 (A1 1 p20.2 [v26,x2]).bind λp27=>
 (DT [x0]).bind λv28=>
 (Bt 0 [v28]).bind λv29=>
 (AW p27.2 [v29]).bind λv30=>
 (DT [v15]).bind λv31=>
 (Bt 0 [v31]).bind λv32=>
 (AW p27.2 [v32]).bind λv33=>
 (AZ 5 [v30,v33]).bind λv34=>
 (Bt 2 [v34]).bind λv35=>
 (AW p27.2 [v35]).bind λv36=>
 (Bt 1 [x4]).bind λv37=>
 (AW p27.2 [v37]).bind λv38=>
 (AZ 4 [v36,v38]).bind λv39=>
 (Bf 4 p27.2 [v39]).bind λv40=>
 (DT [v15]).bind λv41=>
 (Bt 5 [v41]).bind λv42=>
 (AW p27.2 [v42]).bind λv43=>
 (Bt 1 [x4]).bind λv44=>
 (AW p27.2 [v44]).bind λv45=>
 (AZ 1 [v43,v45]).bind λv46=>
 (AW p27.2 [v46]).bind λv47=>
 bl (.p (p27.2).next 0) ((p27.2).V (.I 4 [(.i .u8 0),(.s []),(.i .i64 0),.sn])) λv48 h49=>
 (A1 4 h49 [v48,v40]).bind λp50=>
 cond (cond (BV .Dg [v46] p50.2 v47) (cond (BV .Dg [v44] p50.2 v45) (cond (BV .Dg [v42] p50.2 v43) true false) false) false) (
 (cf (Ar 138) [p20.1] p50.2).bind λp51=>
 bl (.p (p51.2).next 0) ((p51.2).V (.I 2 [(.i .u8 0),(.i .i64 0)])) λv52 h53=>
 (A1 2 h53 [v52,p51.1]).bind λp54=>
 (Bt 0 [v52]).bind λv55=>
 (AW p54.2 [v55]).bind λv56=>
 (A7 .eql [v56,(.i .u8 5)]).bind λv57=>
 (Bt 0 [v48]).bind λv58=>
 (AW p54.2 [v58]).bind λv59=>
 (A7 .eql [v59,(.i .u8 1)]).bind λv60=>
 Dw (
 jj cf 91 6 [v60,v57,v52,v59,x0,v48,x4,v47,p20.1] p54.2) (
 (A7 .eql [v59,(.i .u8 2)]).bind λv61=>
 Dw (
 jj cf 91 6 [v61,v57,v52,v59,x0,v48,x4,v47,p20.1] p54.2) (
 (A7 .eql [v59,(.i .u8 3)]).bind λv62=>
 jj cf 91 6 [v62,v57,v52,v59,x0,v48,x4,v47,p20.1] p54.2) v61) v60) none) none:=
 (NB (Lj rfl) cf 7 _ h).trans (by kernel_rfl)
theorem L6(cf:Bh)(x85 x11 x10 x84 x0 x8 x4 x9 x7:F)(h:G):jj cf 91 6 [x85,x11,x10,x84,x0,x8,x4,x9,x7] h=
 Dw (
 (Bf 4 h [x8]).bind λv0=>
 (cf (Ar 139) [v0] h).bind λp1=>
 (AZ 2 [x9,(.i .i64 0)]).bind λv2=>
 (A1 2 p1.2 [v2,p1.1]).bind λp3=>
 Dw (
 (Bf 2 p3.2 [x10]).bind λv4=>
 (AZ 2 [x9,(.i .i64 0)]).bind λv5=>
 (A1 2 p3.2 [v5,v4]).bind λp6=>
 some (.AC [],p6.2)) (
 some (.AC [],p3.2)) x11) (
 (A7 .eql [x84,(.i .u8 4)]).bind λv7=>
 Dw (
 (Bt 1 [x8]).bind λv8=>
 (AW h [v8]).bind λv9=>
 (cf (Ar 140) [v9,x7] h).bind λp10=>
 (Ca 0 [p10.1]).bind λv11=>
 (Ca 1 [p10.1]).bind λv12=>
 (AZ 2 [x9,(.i .i64 0)]).bind λv13=>
 (A1 2 p10.2 [v13,v11]).bind λp14=>
 some (.AC [],p14.2)) (
 (A7 .eql [x84,(.i .u8 5)]).bind λv15=>
 Dw (
 (AZ 2 [x7,(.i .i64 0)]).bind λv16=>
 (Bf 2 h [v16]).bind λv17=>
 (AZ 2 [x7,(.i .i64 1)]).bind λv18=>
 (Bf 2 h [v18]).bind λv19=>
 (cf (Ar 141) [v17,v19] h).bind λp20=>
 (Ca 0 [p20.1]).bind λv21=>
 (Ca 1 [p20.1]).bind λv22=>
 bl (.p (p20.2).next 0) ((p20.2).V (.I 2 [(.i .u8 0),(.i .i64 0)])) λv23 h24=>
 (A1 2 h24 [v23,v22]).bind λp25=>
 (Bf 2 p25.2 [v23]).bind λv26=>
 (AZ 2 [x9,v21]).bind λv27=>
 (A1 2 p25.2 [v27,v26]).bind λp28=>
 some (.AC [],p28.2)) (
 (A7 .eql [x84,(.i .u8 6)]).bind λv29=>
 Dw (
 (AZ 2 [x7,(.i .i64 0)]).bind λv30=>
 (Bf 2 h [v30]).bind λv31=>
 (AZ 2 [x9,(.i .i64 0)]).bind λv32=>
 (A1 2 h [v32,v31]).bind λp33=>
 (AZ 2 [x7,(.i .i64 0)]).bind λv34=>
 (Bt 0 [v34]).bind λv35=>
 (AW p33.2 [v35]).bind λv36=>
 (A7 .eql [v36,(.i .u8 0)]).bind λv37=>
 Dw (
 (AZ 2 [x7,(.i .i64 1)]).bind λv38=>
 (Bf 2 p33.2 [v38]).bind λv39=>
 (AZ 2 [x9,(.i .i64 0)]).bind λv40=>
 (A1 2 p33.2 [v40,v39]).bind λp41=>
 some (.AC [],p41.2)) (
 some (.AC [],p33.2)) v37) (
 (A7 .eql [x84,(.i .u8 7)]).bind λv42=>
 Dw (
 (AZ 2 [x7,(.i .i64 0)]).bind λv43=>
 (Bf 2 h [v43]).bind λv44=>
 (AZ 2 [x9,(.i .i64 0)]).bind λv45=>
 (A1 2 h [v45,v44]).bind λp46=>
 some (.AC [],p46.2)) (
 (A7 .eql [x84,(.i .u8 14)]).bind λv47=>
 Dw (
 (AZ 2 [x7,(.i .i64 0)]).bind λv48=>
 (Bf 2 h [v48]).bind λv49=>
 (cf (Ar 142) [v49] h).bind λp50=>
 (AZ 2 [x9,(.i .i64 0)]).bind λv51=>
 (A1 2 p50.2 [v51,p50.1]).bind λp52=>
 some (.AC [],p52.2)) (
 (A7 .eql [x84,(.i .u8 13)]).bind λv53=>
 Dw (
 (DT [x0]).bind λv54=>
 (Bt 1 [v54]).bind λv55=>
 (Bt 1 [v55]).bind λv56=>
 (Bf 1 h [v56]).bind λv57=>
 (AZ 2 [x7,(.i .i64 0)]).bind λv58=>
 (Bf 2 h [v58]).bind λv59=>
 (cf (Ar 143) [v57,v59] h).bind λp60=>
 (AZ 2 [x9,(.i .i64 0)]).bind λv61=>
 (A1 2 p60.2 [v61,p60.1]).bind λp62=>
 some (.AC [],p62.2)) (
 (A7 .eql [x84,(.i .u8 10)]).bind λv63=>
 Dw (
 (DT [x0]).bind λv64=>
 (Bt 1 [v64]).bind λv65=>
 (Bt 1 [v65]).bind λv66=>
 (Bf 1 h [v66]).bind λv67=>
 (AZ 2 [x7,(.i .i64 0)]).bind λv68=>
 (Bf 2 h [v68]).bind λv69=>
 (cf (Ar 144) [v67,v69] h).bind λp70=>
 (Ca 0 [p70.1]).bind λv71=>
 (Ca 1 [p70.1]).bind λv72=>
 (Ca 2 [p70.1]).bind λv73=>
 (DT [x0]).bind λv74=>
 (Bt 1 [v74]).bind λv75=>
 (Bt 1 [v75]).bind λv76=>
 (A1 1 p70.2 [v76,v71]).bind λp77=>
 (AZ 2 [x9,(.i .i64 0)]).bind λv78=>
 (A1 2 p77.2 [v78,v72]).bind λp79=>
 (DT [x0]).bind λv80=>
 (Bt 7 [v80]).bind λv81=>
 (A1 1 p79.2 [v81,v73]).bind λp82=>
 some (.AC [],p82.2)) (
 (A7 .eql [x84,(.i .u8 11)]).bind λv83=>
 Dw (
 (cf (Ar 145) [x0,x7] h).bind λp84=>
 some (.AC [],p84.2)) (
 (A7 .eql [x84,(.i .u8 12)]).bind λv85=>
 Dw (
 (DT [x0]).bind λv86=>
 (Bt 1 [v86]).bind λv87=>
 (Bt 1 [v87]).bind λv88=>
 (Bf 1 h [v88]).bind λv89=>
 (AZ 2 [x7,(.i .i64 0)]).bind λv90=>
 (Bf 2 h [v90]).bind λv91=>
 (AZ 2 [x7,(.i .i64 1)]).bind λv92=>
 (Bf 2 h [v92]).bind λv93=>
 (Bt 0 [x4]).bind λv94=>
 (AW h [v94]).bind λv95=>
 (Bt 1 [x4]).bind λv96=>
 (AW h [v96]).bind λv97=>
 (cf (Ar 147) [v95,v97] h).bind λp98=>
 cond (cond (BV (.ld 2) [v92] p98.2 v93) (cond (BV (.ld 2) [v90] p98.2 v91) (cond (BV (.ld 1) [v88] p98.2 v89) true false) false) false) (
 (cf (Ar 146) [v89,v91,v93,p98.1] p98.2).bind λp99=>
 (Ca 0 [p99.1]).bind λv100=>
 (Ca 1 [p99.1]).bind λv101=>
 (Ca 2 [p99.1]).bind λv102=>
 (DT [x0]).bind λv103=>
 (Bt 1 [v103]).bind λv104=>
 (Bt 1 [v104]).bind λv105=>
 (A1 1 p99.2 [v105,v100]).bind λp106=>
 (AZ 2 [x9,(.i .i64 0)]).bind λv107=>
 (A1 2 p106.2 [v107,v101]).bind λp108=>
 (DT [x0]).bind λv109=>
 (Bt 7 [v109]).bind λv110=>
 (A1 1 p108.2 [v110,v102]).bind λp111=>
 some (.AC [],p111.2)) none) (
 (A7 .eql [x84,(.i .u8 8)]).bind λv112=>
 Dw (
 jj cf 91 5 [v112,x0,x8,x4,x9,x7] h) (
 (A7 .eql [x84,(.i .u8 9)]).bind λv113=>
 jj cf 91 5 [v113,x0,x8,x4,x9,x7] h) v112) v85) v83) v63) v53) v47) v42) v29) v15) v7) x85:=
 (NB (Lj rfl) cf 6 _ h).trans (by kernel_rfl)
theorem d6(cf:Bh)(x230 x0 x8 x4 x9 x7:F)(h:G):jj cf 91 5 [x230,x0,x8,x4,x9,x7] h=
 Dw (
 (AZ 2 [x7,(.i .i64 0)]).bind λv0=>
 (Bt 0 [v0]).bind λv1=>
 (AW h [v1]).bind λv2=>
 (A7 .neq [v2,(.i .u8 5)]).bind λv3=>
 Dw (
 (DT [x0]).bind λv4=>
 (Bt 0 [v4]).bind λv5=>
 (AW h [v5]).bind λv6=>
 (Bt 1 [x8]).bind λv7=>
 (AW h [v7]).bind λv8=>
 (cf (Ar 84) [v6,v8] h).bind λp9=>
 (Bt 0 [x4]).bind λv10=>
 (AW p9.2 [v10]).bind λv11=>
 cond (cond (BV .Dg [v10] h v11) true false) (
 (Bt 1 [x4]).bind λv12=>
 (AW p9.2 [v12]).bind λv13=>
 cond (cond (BV .Dg [v12] h v13) true false) (
 (AZ 2 [x7,(.i .i64 0)]).bind λv14=>
 (Bf 2 p9.2 [v14]).bind λv15=>
 cond (cond (BV (.ld 2) [v14] h v15) true false) (
 (cf (Ar 86) [x0,p9.1,v11,v13,(.i .i64 0),v15] p9.2).bind λp16=>
 some (.AC [],p16.2)) none) none) none) (
 jj cf 91 4 [x9,x7] h) v3) (
 some (.AC [],h)) x230:=
 (NB (Lj rfl) cf 5 _ h).trans (by kernel_rfl)
theorem AcP(cf:Bh)(x9 x7:F)(h:G):jj cf 91 4 [x9,x7] h=
 jj cf 91 1 [x9,x7,(.i .i64 0)] h:=
 (NB (Lj rfl) cf 4 _ h).trans (by kernel_rfl)
theorem ls(cf:Bh)(x9 x7 x14:F)(h:G):jj cf 91 1 [x9,x7,x14] h=
 (Ea [x9]).bind λv0=>
 (A7 .lss [x14,v0]).bind λv1=>
 Dw (
 jj cf 91 3 [x14,x9,x7] h) (
 some (.AC [],h)) v1:=
 (NB (Lj rfl) cf 1 _ h).trans (by kernel_rfl)
theorem AcO(cf:Bh)(x14 x9 x7:F)(h:G):jj cf 91 3 [x14,x9,x7] h=
 (AZ 2 [x7,(.i .i64 0)]).bind λv0=>
 (Bf 2 h [v0]).bind λv1=>
 (AZ 2 [x9,x14]).bind λv2=>
 (A1 2 h [v2,v1]).bind λp3=>
 jj cf 91 2 [x14,x9,x7] p3.2:=
 (NB (Lj rfl) cf 3 _ h).trans (by kernel_rfl)
theorem AcN(cf:Bh)(x14 x9 x7:F)(h:G):jj cf 91 2 [x14,x9,x7] h=
 (A7 .add [x14,(.i .i64 1)]).bind λv0=>
 jj cf 91 1 [x9,x7,v0] h:=
 (NB (Lj rfl) cf 2 _ h).trans (by kernel_rfl)
theorem r169(cf:Bh)(a0 a1 a2 a3 a4:F)(h:G):xx cf 169 [a0,a1,a2,a3,a4] h=
 bl (.p (h).next 0) ((h).V (.I (BK (F.I a3)) (F.I a3))) λv0 h1=>
 bl (.p (h1).next 0) ((h1).V (.I (BK (F.I a4)) (F.I a4))) λv2 h3=>
 (DT [a0]).bind λv4=>
 (Bt 2 [v4]).bind λv5=>
 (AW h3 [v5]).bind λv6=>
 (DT [a1]).bind λv7=>
 (Bt 0 [v7]).bind λv8=>
 (Bt 1 [v8]).bind λv9=>
 (AW h3 [v9]).bind λv10=>
 (AZ 1 [v6,v10]).bind λv11=>
 (AW h3 [v11]).bind λv12=>
 (DT [v12]).bind λv13=>
 (Bt 8 [v13]).bind λv14=>
 (AW h3 [v14]).bind λv15=>
 (DT [a1]).bind λv16=>
 (Bt 0 [v16]).bind λv17=>
 (Bt 2 [v17]).bind λv18=>
 (AW h3 [v18]).bind λv19=>
 (AZ 1 [v15,v19]).bind λv20=>
 (AW h3 [v20]).bind λv21=>
 (AZ 3 [v21,a2]).bind λv22=>
 (DT [v22]).bind λv23=>
 (Bf 3 h3 [v23]).bind λv24=>
 (Bf 3 h3 [v2]).bind λv25=>
 (F5 false [0,1,1] [v24,v25]).bind λv26=>
 Dw (
 some (.AC [(.b false),(.i .i64 0)],h3)) (
 (DT [v22]).bind λv27=>
 (Bt 2 [v27]).bind λv28=>
 (AW h3 [v28]).bind λv29=>
 Dw (
 some (.AC [(.b false),(.i .i64 6)],h3)) (
 (Bf 3 h3 [v2]).bind λv30=>
 (DT [v22]).bind λv31=>
 (A1 3 h3 [v31,v30]).bind λp32=>
 jj cf 169 1 [v12,a1,a2,v0] p32.2) v29) v26:=by kernel_rfl
theorem AcD(cf:Bh)(x12 x1 x2 x8:F)(h:G):jj cf 169 1 [x12,x1,x2,x8] h=
 (DT [x12]).bind λv0=>
 (Bt 0 [v0]).bind λv1=>
 (Bt 5 [v1]).bind λv2=>
 (AW h [v2]).bind λv3=>
 (DT [x1]).bind λv4=>
 (Bt 0 [v4]).bind λv5=>
 (Bt 2 [v5]).bind λv6=>
 (AW h [v6]).bind λv7=>
 (AZ 1 [v3,v7]).bind λv8=>
 (AW h [v8]).bind λv9=>
 (Bf 2 h [x8]).bind λv10=>
 (AZ 2 [v9,x2]).bind λv11=>
 (A1 2 h [v11,v10]).bind λp12=>
 some (.AC [(.b true),(.i .i64 0)],p12.2):=
 (NB (Lj rfl) cf 1 _ h).trans (by kernel_rfl)
end
