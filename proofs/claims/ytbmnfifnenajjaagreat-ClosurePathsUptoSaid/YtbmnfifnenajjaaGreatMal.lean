/- Part of the proof. -/
import Derived.Test.YtbmnfifnenajjaaGreatMai
set_option linter.all false
noncomputable section
namespace Go.Proofs.YtbmnfifnenajjaaGreat
open Go.Fg
section
set_option maxRecDepth 100000
set_option maxHeartbeats 4000000
attribute [local simp] JX JT JY JZ J8 JN JL J5 J4 JR JQ J9 Ka J_ funext_iff
attribute [local irreducible] A6 AM Bl A9 AR AX CO DX Dr DY DE Dq Cb DN FS Ho GF EP Hq FT G_ HJ Gd Js HI Fi GD Gq H_ H9 CX H7 G9 Hn H8 Hm jj xx Option.bind Da G.V LN CL C8 bl Ix DT f1 f2 nx Fw I2 A1 C2 AC Bv C0 DU
variable{cf:Bd}
def GI:=Tq cf 58 1
def S5:=Tq cf 59 2
def aU:=Tq cf 60 2
def Agt:=Tc cf 61 2
def aV:=Tq cf 62 2
def hp:=Tq cf 63 2
def s3:=Tq cf 64 3
def s4:=Tq cf 65 2
def hq:=Tq cf 66 3
def Q8:=Tc cf 67 2
def K7:=Tq cf 68 2
def Pw:=Tq cf 70 2
def S6:=Tq cf 73 2
def Px:=Tq cf 75 6
def s5:=Tq cf 76 0
def Xy:=Tq cf 77 4
def s6:=Tq cf 78 1
def s7:=Tq cf 79 1
def s8:=Tq cf 80 4
def Q_:=Tc cf 81 2
def Ra:=Tq cf 82 3
def Rb:=Tq cf 83 3
def s9:=Tq cf 84 2
def s_:=Tq cf 85 2
def ta:=Tq cf 86 1
def S7:=Tq cf 87 2
def II:=Tq cf 88 1
def GJ:=Tq cf 89 1
def Rc:=Tc cf 90 2
def aW:=Tq cf 91 1
def U0:=Tq cf 92 2
def aX:=Tq cf 93 1
def S8:=Tq cf 94 2
def IJ:=Tq cf 95 2
end
