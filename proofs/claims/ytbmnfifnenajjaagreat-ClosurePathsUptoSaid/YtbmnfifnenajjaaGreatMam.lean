/- Part of the proof. -/
import Derived.Test.YtbmnfifnenajjaaGreatMai
set_option linter.all false
noncomputable section
namespace Go.Proofs.YtbmnfifnenajjaaGreat
open Go.Fg
section
set_option maxRecDepth 100000
set_option maxHeartbeats 4000000
attribute [local simp] JX JT JY JZ J8 JN JL J5 J4 JR JQ J9 Ka J_ funext_iff
attribute [local irreducible] A6 AM Bl A9 AR AX CO DX Dr DY DE Dq Cb DN FS Ho GF EP Hq FT G_ HJ Gd Js HI Fi GD Gq H_ H9 CX H7 G9 Hn H8 Hm jj xx Option.bind Da G.V LN CL C8 bl Ix DT f1 f2 nx Fw I2 A1 C2 AC Bv C0 DU
variable{cf:Bd}
def S9:=Tq cf 96 5
def Np:=Tq cf 97 3
def vh{J:Nat->JF}{X:XT}(hJ:jj cf=J)(hX:xx cf=X):=c9 hJ hX 98 4
def Py:= @vh cf _ _ rfl rfl
def aY:=Tq cf 99 2
def Xr:=Tq cf 100 2
def MJ:=Tq cf 101 4
def Nj:=Tq cf 102 2
def I_:=Tq cf 103 1
def QJ:=Tq cf 104 2
def K2:=Tq cf 105 3
def SN:=Tq cf 106 3
def QK:=Tq cf 107 1
def hd:=Tq cf 108 1
def IG:=Tq cf 109 2
def UO:=Tc cf 110 2
def aI:=Tq cf 111 1
def he:=Tq cf 112 2
def SP:=Tq cf 113 2
def KB:=Tq cf 115 4
def rX:=Tq cf 116 2
def D_:=Tq cf 117 2
end
