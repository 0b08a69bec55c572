/- Part of the proof. -/
import Derived.Test.YtbmnfifnenajjaaGreatMai
set_option linter.all false
noncomputable section
namespace Go.Proofs.YtbmnfifnenajjaaGreat
open Go.Fg
section
set_option maxRecDepth 100000
set_option maxHeartbeats 4000000
attribute [local simp] JX JT JY JZ J8 JN JL J5 J4 JR JQ J9 Ka J_ funext_iff
attribute [local irreducible] A6 AM Bl A9 AR AX CO DX Dr DY DE Dq Cb DN FS Ho GF EP Hq FT G_ HJ Gd Js HI Fi GD Gq H_ H9 CX H7 G9 Hn H8 Hm jj xx Option.bind Da G.V LN CL C8 bl Ix DT f1 f2 nx Fw I2 A1 C2 AC Bv C0 DU
variable{cf:Bd}
def so:=Tq cf 196 1
def sp:=Tq cf 197 0
def sq:=Tq cf 198 1
def SZ:=Tq cf 199 2
def Xs:=Tq cf 200 3
def On:=Tq cf 202 3
def hl:=Tq cf 203 4
def sr:=Tq cf 204 0
def ss:=Tq cf 205 1
def st:=Tq cf 206 2
def su:=Tq cf 207 2
def sv:=Tq cf 208 2
def sw:=Tq cf 209 1
def Ja:=Tq cf 210 2
def MN:=Tq cf 211 4
def Nn:=Tq cf 212 4
def Pv:=Tc cf 213 4
def S0:=Tq cf 214 4
def Xt:=Tq cf 215 4
def LH:=Tq cf 217 5
def No:=Tq cf 220 1
def sx:=Tq cf 223 4
def Oo:=Tq cf 224 2
def sy:=Tq cf 225 2
def sA:=Tq cf 226 2
def S2:=Tq cf 227 2
def LJ:=Tq cf 228 4
def KC:=Tq cf 229 4
def Xu:=Tq cf 230 2
def sB:=Tq cf 231 2
def hm:=Tq cf 232 1
def sC:=Tq cf 233 2
def sD:=Tq cf 234 2
def sE:=Tq cf 235 2
def Xv:=Tq cf 236 2
def sF:=Tq cf 237 2
def sG:=Tq cf 238 2
def sH:=Tq cf 239 2
def sI:=Tq cf 240 2
end
