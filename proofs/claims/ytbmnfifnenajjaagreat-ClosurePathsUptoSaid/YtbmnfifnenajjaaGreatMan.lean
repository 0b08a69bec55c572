/- Part of the proof. -/
import Derived.Test.YtbmnfifnenajjaaGreatMai
set_option linter.all false
noncomputable section
namespace Go.Proofs.YtbmnfifnenajjaaGreat
open Go.Fg
section
set_option maxRecDepth 100000
set_option maxHeartbeats 4000000
attribute [local simp] JX JT JY JZ J8 JN JL J5 J4 JR JQ J9 Ka J_ funext_iff
attribute [local irreducible] A6 AM Bl A9 AR AX CO DX Dr DY DE Dq Cb DN FS Ho GF EP Hq FT G_ HJ Gd Js HI Fi GD Gq H_ H9 CX H7 G9 Hn H8 Hm jj xx Option.bind Da G.V LN CL C8 bl Ix DT f1 f2 nx Fw I2 A1 C2 AC Bv C0 DU
variable{cf:Bd}
def UP:=Tq cf 118 1
def Pj:=Tq cf 119 1
def rY:=Tq cf 120 2
def rZ:=Tq cf 121 2
def Ok:=Tq cf 122 2
def SQ:=Tq cf 123 2
def Po:=Tq cf 124 2
def hf:=Tq cf 125 4
def QL:=Tq cf 126 2
def MK:=Tq cf 127 1
def Pp:=Tq cf 128 3
def r0:=Tq cf 129 2
def UQ:=Tq cf 130 2
def r1:=Tq cf 131 1
def r2:=Tq cf 132 2
def Pq:=Tq cf 133 2
def QM:=Tq cf 134 1
def QN:=Tq cf 135 1
def r3:=Tq cf 136 2
def r4:=Tq cf 137 1
def ML:=Tq cf 138 1
def r5:=Tq cf 139 1
def r7:=Tq cf 140 3
def r8:=Tq cf 141 0
def r_:=Tq cf 142 0
def hg:=Tq cf 143 3
def sa:=Tq cf 144 1
def sb:=Tq cf 145 2
def sc:=Tq cf 146 2
def sd:=Tq cf 147 2
def se:=Tq cf 148 2
def sf:=Tq cf 149 1
def aL:=Tq cf 150 6
def UR:=Tq cf 151 2
def US:=Tq cf 152 2
def hh:=Tq cf 153 2
def hi:=Tq cf 154 1
def hj:=Tq cf 155 2
def Pr:=Tq cf 156 2
def K3:=Tq cf 157 2
def Mh:=Tq cf 158 2
def QQ:=Tq cf 159 1
def MM:=Tq cf 160 2
def aM:=Tq cf 161 1
end
