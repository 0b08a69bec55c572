/- Part of the proof. -/
import Derived.Test.YtmnfpdedgnfeiaaGreatMai
set_option linter.all false
noncomputable section
namespace Go.Proofs.YtmnfpdedgnfeiaaGreat
open Go.Fg
section
set_option maxRecDepth 100000
set_option maxHeartbeats 4000000
attribute [local simp] J9 J5 J_ Ka Kl J0 JY Ki Kh J4 J3 Kq Ks Kr funext_iff
attribute [local irreducible] A7 AW Bt Bf AZ A1 Ca Ea DT C8 DW CB BE Eo F4 Hy Hz E7 HN F5 Hx H2 Gi JB H1 Fx G1 GO Ii Ih De If Hw HM Ig HL jj xx Option.bind Dw G.V LN CL Du bl IF DX f1 f2 nx FK I4 AO CT Ax BV CY Er
variable{cf:Bh}
def Ui:=Tq cf 183 1
def Acm{J:Nat->JF}{X:XT}(hJ:jj cf=J)(hX:xx cf=X):=fc hJ hX 184 4
def LS:= @Acm cf _ _ rfl rfl
def v1:=Tq cf 185 3
def Uj:=Tq cf 186 1
def v2:=Tq cf 187 2
def v3:=Tq cf 188 2
def v4:=Tq cf 189 2
def v5:=Tq cf 190 1
def NE:=Tq cf 191 4
def N9:=Tq cf 192 4
def Qt:=Tc cf 193 4
def Uk:=Tq cf 194 4
def Y6:=Tq cf 195 4
def Mu:=Tq cf 197 5
def N_:=Tq cf 200 1
def v6:=Tq cf 203 4
def Pj:=Tq cf 204 2
def v7:=Tq cf 205 2
def v8:=Tq cf 206 2
def Um:=Tq cf 207 2
def Mv:=Tq cf 208 4
def Le:=Tq cf 209 4
def Y7:=Tq cf 210 2
def v_:=Tq cf 211 2
def jI:=Tq cf 212 1
def wa:=Tq cf 213 2
def wc:=Tq cf 214 2
def wd:=Tq cf 215 2
def Y8:=Tq cf 216 2
def we:=Tq cf 217 2
def wg:=Tq cf 218 2
def wh:=Tq cf 219 2
def wj:=Tq cf 220 2
def wk:=Tq cf 221 2
def cZ:=Tq cf 222 1
def wl:=Tq cf 223 2
def wm:=Tq cf 224 2
def wn:=Tq cf 225 2
def wo:=Tq cf 226 1
def wq:=Tq cf 227 2
def wr:=Tq cf 228 1
def jJ:=Tq cf 229 4
end
