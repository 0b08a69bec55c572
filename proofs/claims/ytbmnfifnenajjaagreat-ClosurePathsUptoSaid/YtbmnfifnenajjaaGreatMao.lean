/- Part of the proof. -/
import Derived.Test.YtbmnfifnenajjaaGreatMai
set_option linter.all false
noncomputable section
namespace Go.Proofs.YtbmnfifnenajjaaGreat
open Go.Fg
section
set_option maxRecDepth 100000
set_option maxHeartbeats 4000000
attribute [local simp] JX JT JY JZ J8 JN JL J5 J4 JR JQ J9 Ka J_ funext_iff
attribute [local irreducible] A6 AM Bl A9 AR AX CO DX Dr DY DE Dq Cb DN FS Ho GF EP Hq FT G_ HJ Gd Js HI Fi GD Gq H_ H9 CX H7 G9 Hn H8 Hm jj xx Option.bind Da G.V LN CL C8 bl Ix DT f1 f2 nx Fw I2 A1 C2 AC Bv C0 DU
variable{cf:Bd}
def SR:=Tq cf 162 4
def aN:=Tq cf 163 1
def QR:=Tq cf 164 1
def Ol:=Tq cf 165 2
def Ig:=Tq cf 166 3
def sg:=Tq cf 167 1
def SS:=Tq cf 168 1
def sh:=Tq cf 169 1
def vg{J:Nat->JF}{X:XT}(hJ:jj cf=J)(hX:xx cf=X):=c9 hJ hX 170 4
def K4:= @vg cf _ _ rfl rfl
def si:=Tq cf 171 3
def SU:=Tq cf 172 1
def Nl:=Tq cf 173 4
def SV:=Tq cf 174 4
def UT:=Tq cf 175 4
def aO:=Tq cf 176 2
def aP:=Tq cf 177 1
def aQ:=Tq cf 178 1
def UU:=Tq cf 179 2
def LG:=Tc cf 180 2
def Hv:=Tq cf 181 1
def Ps:=Tq cf 182 2
def SW:=Tq cf 183 2
def sj:=Tq cf 184 1
def IH:=Tq cf 185 5
def hk:=Tq cf 186 1
def sk:=Tq cf 187 2
def sm:=Tq cf 188 2
def QX:=Tq cf 189 2
def sn:=Tq cf 190 1
def UV:=Tq cf 191 2
def SX:=Tq cf 192 2
def Q1:=Tq cf 193 2
def SY:=Tq cf 194 2
def Nm:=Tq cf 195 2
end
