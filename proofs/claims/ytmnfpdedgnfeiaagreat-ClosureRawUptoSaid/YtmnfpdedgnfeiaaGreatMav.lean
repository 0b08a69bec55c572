/- Part of the proof. -/
import Derived.Test.YtmnfpdedgnfeiaaGreatMai
set_option linter.all false
noncomputable section
namespace Go.Proofs.YtmnfpdedgnfeiaaGreat
open Go.Fg
section
set_option maxRecDepth 100000
set_option maxHeartbeats 4000000
attribute [local simp] J9 J5 J_ Ka Kl J0 JY Ki Kh J4 J3 Kq Ks Kr funext_iff
attribute [local irreducible] A7 AW Bt Bf AZ A1 Ca Ea DT C8 DW CB BE Eo F4 Hy Hz E7 HN F5 Hx H2 Gi JB H1 Fx G1 GO Ii Ih De If Hw HM Ig HL jj xx Option.bind Dw G.V LN CL Du bl IF DX f1 f2 nx FK I4 AO CT Ax BV CY Er
variable{cf:Bh}
def In:=Tq cf 198 5
end
