/- Part of the proof. -/
import Derived.Test.YtmnfpdedgnfeiaaGreatMai
set_option linter.all false
noncomputable section
namespace Go.Proofs.YtmnfpdedgnfeiaaGreat
open Go.Fg
section
set_option maxRecDepth 100000
set_option maxHeartbeats 4000000
attribute [local simp] J9 J5 J_ Ka Kl J0 JY Ki Kh J4 J3 Kq Ks Kr funext_iff
attribute [local irreducible] A7 AW Bt Bf AZ A1 Ca Ea DT C8 DW CB BE Eo F4 Hy Hz E7 HN F5 Hx H2 Gi JB H1 Fx G1 GO Ii Ih De If Hw HM Ig HL jj xx Option.bind Dw G.V LN CL Du bl IF DX f1 f2 nx FK I4 AO CT Ax BV CY Er
variable{cf:Bh}
def Mt:=Tc cf 152 2
def Ja:=Tq cf 153 5
def jG:=Tq cf 154 1
def vU:=Tq cf 155 2
def vV:=Tq cf 156 2
def Sh:=Tq cf 157 2
def vW:=Tq cf 158 1
def V9:=Tq cf 159 2
def Ud:=Tq cf 160 2
def Si:=Tq cf 161 2
def Ue:=Tq cf 162 2
def N7:=Tq cf 163 2
def vX:=Tq cf 164 1
def vY:=Tq cf 165 0
def vZ:=Tq cf 166 1
def Uf:=Tq cf 167 2
def Y5:=Tq cf 168 3
def Pf:=Tq cf 170 3
def Sj:=Tq cf 171 1
def ND:=Tq cf 172 2
def cX:=Tq cf 173 1
def Ug:=Tq cf 174 4
def N8:=Tq cf 175 4
def jH:=Tq cf 176 3
def Uh:=Tq cf 177 4
def V_:=Tq cf 178 4
def cY:=Tq cf 179 1
def Sk:=Tq cf 180 1
def Ph:=Tq cf 181 2
def IL:=Tq cf 182 3
end
