/- Part of the proof. -/
import Derived.Test.YtmnfpdedgnfeiaaGreatMai
set_option linter.all false
noncomputable section
namespace Go.Proofs.YtmnfpdedgnfeiaaGreat
open Go.Fg
section
set_option maxRecDepth 100000
set_option maxHeartbeats 4000000
attribute [local simp] J9 J5 J_ Ka Kl J0 JY Ki Kh J4 J3 Kq Ks Kr funext_iff
attribute [local irreducible] A7 AW Bt Bf AZ A1 Ca Ea DT C8 DW CB BE Eo F4 Hy Hz E7 HN F5 Hx H2 Gi JB H1 Fx G1 GO Ii Ih De If Hw HM Ig HL jj xx Option.bind Dw G.V LN CL Du bl IF DX f1 f2 nx FK I4 AO CT Ax BV CY Er
variable{cf:Bh}
def Us:=Tq cf 84 2
def Qy:=Tq cf 86 6
def wM:=Tq cf 87 0
def Y_:=Tq cf 88 4
def Hi:=Tq cf 89 1
def Mx:=Tq cf 90 1
def Wf:=Tq cf 92 1
def Qz:=Tq cf 93 1
def wN:=Tq cf 94 2
def wO:=Tq cf 95 2
def Pp:=Tq cf 96 2
def Uu:=Tq cf 97 2
def vC:=Tq cf 103 1
def vD:=Tq cf 104 2
def Sa:=Tq cf 105 1
def Sb:=Tq cf 106 1
def vE:=Tq cf 107 2
def vF:=Tq cf 108 1
def NC:=Tq cf 109 1
def vG:=Tq cf 110 1
def vH:=Tq cf 111 3
def vI:=Tq cf 112 0
def vJ:=Tq cf 113 0
def jz:=Tq cf 114 3
def vK:=Tq cf 115 1
def vL:=Tq cf 116 2
def vM:=Tq cf 117 2
def vN:=Tq cf 118 2
def vO:=Tq cf 119 2
def vP:=Tq cf 120 1
def cS:=Tq cf 121 6
def V5:=Tq cf 122 2
def V6:=Tq cf 123 2
end
