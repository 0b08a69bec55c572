/- Part of the proof. -/
import Derived.Test.YtbmnfifnenajjaaGreatMai
set_option linter.all false
noncomputable section
namespace Go.Proofs.YtbmnfifnenajjaaGreat
open Go.Fg
section
set_option maxRecDepth 100000
set_option maxHeartbeats 4000000
attribute [local simp] JX JT JY JZ J8 JN JL J5 J4 JR JQ J9 Ka J_ funext_iff
attribute [local irreducible] A6 AM Bl A9 AR AX CO DX Dr DY DE Dq Cb DN FS Ho GF EP Hq FT G_ HJ Gd Js HI Fi GD Gq H_ H9 CX H7 G9 Hn H8 Hm jj xx Option.bind Da G.V LN CL C8 bl Ix DT f1 f2 nx Fw I2 A1 C2 AC Bv C0 DU
variable{cf:Bd}
def Ea:=Tq cf 216 4
end
