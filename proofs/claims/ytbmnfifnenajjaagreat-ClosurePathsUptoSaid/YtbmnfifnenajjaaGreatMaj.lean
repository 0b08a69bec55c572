/- Part of the proof. -/
import Derived.Test.YtbmnfifnenajjaaGreatMai
set_option linter.all false
noncomputable section
namespace Go.Proofs.YtbmnfifnenajjaaGreat
open Go.Fg
section
set_option maxRecDepth 100000
set_option maxHeartbeats 4000000
attribute [local simp] JX JT JY JZ J8 JN JL J5 J4 JR JQ J9 Ka J_ funext_iff
attribute [local irreducible] A6 AM Bl A9 AR AX CO DX Dr DY DE Dq Cb DN FS Ho GF EP Hq FT G_ HJ Gd Js HI Fi GD Gq H_ H9 CX H7 G9 Hn H8 Hm jj xx Option.bind Da G.V LN CL C8 bl Ix DT f1 f2 nx Fw I2 A1 C2 AC Bv C0 DU
variable{cf:Bd}
def Xw:=Tq cf 3 2
def kq4:=Tc cf 4 3
def kq5:=Tq cf 5 3
def Xx:=Tq cf 7 2
def Q9:=Tq cf 8 2
def SM:=Tq cf 10 1
def SO:=Tq cf 11 1
def aJ:=Tq cf 12 2
def aK:=Tq cf 13 2
def r6:=Tq cf 14 2
def QO:=Tq cf 15 2
def Mi:=Tq cf 16 2
def Ih:=Tq cf 17 3
def Agk:=Tq cf 18 3
def Q0:=Tq cf 19 2
def Pu:=Tq cf 20 2
def Ags:=Tq cf 21 2
def Agj:=Tq cf 22 4
def Agm:=Tq cf 23 4
def Q2:=Tc cf 24 2
def Q3:=Tq cf 25 2
end
