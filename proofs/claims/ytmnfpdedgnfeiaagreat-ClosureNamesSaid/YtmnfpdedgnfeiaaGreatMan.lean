/- Part of the proof. -/
import Derived.Test.YtmnfpdedgnfeiaaGreatMai
set_option linter.all false
noncomputable section
namespace Go.Proofs.YtmnfpdedgnfeiaaGreat
open Go.Fg
section
set_option maxRecDepth 100000
set_option maxHeartbeats 4000000
attribute [local simp] J9 J5 J_ Ka Kl J0 JY Ki Kh J4 J3 Kq Ks Kr funext_iff
attribute [local irreducible] A7 AW Bt Bf AZ A1 Ca Ea DT C8 DW CB BE Eo F4 Hy Hz E7 HN F5 Hx H2 Gi JB H1 Fx G1 GO Ii Ih De If Hw HM Ig HL jj xx Option.bind Dw G.V LN CL Du bl IF DX f1 f2 nx FK I4 AO CT Ax BV CY Er
variable{cf:Bh}
def jA:=Tq cf 124 2
def jB:=Tq cf 125 1
def jC:=Tq cf 126 2
def Qs:=Tq cf 127 2
def LQ:=Tq cf 128 2
def MX:=Tq cf 129 2
def vR:=Tq cf 130 1
def Sd:=Tq cf 131 2
def vS:=Tq cf 132 3
def jD:=Tq cf 133 4
def Se:=Tq cf 134 2
def EF:=Tq cf 135 2
def Ub:=Tq cf 136 3
def LR:=Tq cf 137 3
def Sf:=Tq cf 138 1
def jE:=Tq cf 139 1
def I_:=Tq cf 140 2
def V7:=Tc cf 141 2
def cT:=Tq cf 142 1
def jF:=Tq cf 143 2
def Uc:=Tq cf 144 2
def Ld:=Tq cf 146 4
def vT:=Tq cf 147 2
def cU:=Tq cf 148 2
def cV:=Tq cf 149 1
def cW:=Tq cf 150 1
def V8:=Tq cf 151 2
end
