/- Part of the proof. -/
import Derived.Test.YtmnfpdedgnfeiaaGreatMai
set_option linter.all false
noncomputable section
namespace Go.Proofs.YtmnfpdedgnfeiaaGreat
open Go.Fg
section
set_option maxRecDepth 100000
set_option maxHeartbeats 4000000
attribute [local simp] J9 J5 J_ Ka Kl J0 JY Ki Kh J4 J3 Kq Ks Kr funext_iff
attribute [local irreducible] A7 AW Bt Bf AZ A1 Ca Ea DT C8 DW CB BE Eo F4 Hy Hz E7 HN F5 Hx H2 Gi JB H1 Fx G1 GO Ii Ih De If Hw HM Ig HL jj xx Option.bind Dw G.V LN CL Du bl IF DX f1 f2 nx FK I4 AO CT Ax BV CY Er
variable{cf:Bh}
def Oa:=Tq cf 4 3
def c6:=Tq cf 8 2
def Ut:=Tq cf 9 1
def Ua:=Tq cf 10 1
def IK:=Tq cf 11 3
def Sc:=Tq cf 12 2
def vQ:=Tq cf 13 2
def Y4:=Tq cf 14 2
def Sg:=Tq cf 15 2
def v0:=Tq cf 17 2
def JH:=Tq cf 19 4
end
