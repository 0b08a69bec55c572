/- Part of the proof. -/
import Derived.Test.YtmnfpdedgnfeiaaGreatMai
set_option linter.all false
noncomputable section
namespace Go.Proofs.YtmnfpdedgnfeiaaGreat
open Go.Fg
section
set_option maxRecDepth 100000
set_option maxHeartbeats 4000000
attribute [local simp] J9 J5 J_ Ka Kl J0 JY Ki Kh J4 J3 Kq Ks Kr funext_iff
attribute [local irreducible] A7 AW Bt Bf AZ A1 Ca Ea DT C8 DW CB BE Eo F4 Hy Hz E7 HN F5 Hx H2 Gi JB H1 Fx G1 GO Ii Ih De If Hw HM Ig HL jj xx Option.bind Dw G.V LN CL Du bl IF DX f1 f2 nx FK I4 AO CT Ax BV CY Er
variable{cf:Bh}
def c2:=Tq cf 55 2
def jM:=Tq cf 56 2
def Ss:=Tc cf 57 2
def Up:=Tq cf 63 2
def Jb:=Tq cf 64 1
def wK:=Tq cf 65 1
def c3:=Tq cf 66 1
def Wd:=Tq cf 67 2
def c4:=Tq cf 68 1
def Uq:=Tq cf 69 2
def Jc:=Tq cf 70 2
def Ur:=Tq cf 71 5
def Ob:=Tq cf 72 3
def Acn{J:Nat->JF}{X:XT}(hJ:jj cf=J)(hX:xx cf=X):=fc hJ hX 73 4
def Qw:= @Acn cf _ _ rfl rfl
def c5:=Tq cf 74 2
def Y9:=Tq cf 75 2
def NG:=Tq cf 76 4
def Oc:=Tq cf 77 2
def JI:=Tq cf 78 1
def NH:=Tq cf 79 1
def Qx:=Tq cf 80 3
def wL:=Tq cf 81 2
def We:=Tq cf 82 2
def JJ:=Tq cf 83 1
end
