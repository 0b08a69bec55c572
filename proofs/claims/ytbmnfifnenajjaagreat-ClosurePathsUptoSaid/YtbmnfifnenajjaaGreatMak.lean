/- Part of the proof. -/
import Derived.Test.YtbmnfifnenajjaaGreatMai
set_option linter.all false
noncomputable section
namespace Go.Proofs.YtbmnfifnenajjaaGreat
open Go.Fg
section
set_option maxRecDepth 100000
set_option maxHeartbeats 4000000
attribute [local simp] JX JT JY JZ J8 JN JL J5 J4 JR JQ J9 Ka J_ funext_iff
attribute [local irreducible] A6 AM Bl A9 AR AX CO DX Dr DY DE Dq Cb DN FS Ho GF EP Hq FT G_ HJ Gd Js HI Fi GD Gq H_ H9 CX H7 G9 Hn H8 Hm jj xx Option.bind Da G.V LN CL C8 bl Ix DT f1 f2 nx Fw I2 A1 C2 AC Bv C0 DU
variable{cf:Bd}
def GH:=Tq cf 31 1
def J2:=Tq cf 32 1
def Mj:=Tq cf 33 1
def G1:=Tq cf 34 2
def K5:=Tq cf 35 1
def sX:=Tq cf 37 2
def sY:=Tq cf 39 1
def Q5:=Tq cf 40 2
def sZ:=Tq cf 41 2
def S3:=Tq cf 42 1
def Q6:=Tq cf 43 2
def UZ:=Tq cf 45 2
def Q7:=Tq cf 47 2
def ho:=Tq cf 48 1
def s1:=Tq cf 49 2
def s2:=Tq cf 50 1
def J3:=Tq cf 51 2
def LK:=Tq cf 52 1
def Ml:=Tq cf 53 3
def K6:=Tq cf 54 1
def Jb:=Tq cf 55 1
def LL:=Tq cf 56 1
end
