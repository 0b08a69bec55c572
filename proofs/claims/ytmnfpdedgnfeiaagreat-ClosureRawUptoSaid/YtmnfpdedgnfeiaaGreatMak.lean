/- Part of the proof. -/
import Derived.Test.YtmnfpdedgnfeiaaGreatMai
set_option linter.all false
noncomputable section
namespace Go.Proofs.YtmnfpdedgnfeiaaGreat
open Go.Fg
section
set_option maxRecDepth 100000
set_option maxHeartbeats 4000000
attribute [local simp] J9 J5 J_ Ka Kl J0 JY Ki Kh J4 J3 Kq Ks Kr funext_iff
attribute [local irreducible] A7 AW Bt Bf AZ A1 Ca Ea DT C8 DW CB BE Eo F4 Hy Hz E7 HN F5 Hx H2 Gi JB H1 Fx G1 GO Ii Ih De If Hw HM Ig HL jj xx Option.bind Dw G.V LN CL Du bl IF DX f1 f2 nx FK I4 AO CT Ax BV CY Er
variable{cf:Bh}
def Sl:=Tq cf 20 2
def v9:=Tq cf 21 1
def wi:=Tq cf 22 1
def ws:=Tq cf 23 1
def Qu:=Tq cf 26 2
def Sn:=Tc cf 27 2
def So:=Tq cf 28 2
def Un:=Tq cf 30 1
def jL:=Tq cf 31 1
def wD:=Tq cf 32 2
def wE:=Tq cf 33 1
def KM:=Tq cf 34 2
def Mw:=Tq cf 35 1
def MY:=Tq cf 36 3
def LU:=Tq cf 37 1
def Sp:=Tc cf 38 2
def Sq:=Tq cf 39 3
def Sr:=Tq cf 40 3
def wF:=Tq cf 41 2
def wG:=Tq cf 42 2
def Hh:=Tq cf 43 1
def KN:=Tq cf 44 1
def MZ:=Tq cf 45 1
def HD:=Tq cf 46 2
def LV:=Tq cf 47 1
def wH:=Tq cf 48 1
def wI:=Tq cf 49 1
def wJ:=Tq cf 50 4
def LW:=Tq cf 51 2
def Qv:=Tc cf 53 2
def Uo:=Tq cf 54 2
end
