/- Part of the proof. -/
import Derived.Test.YtmnfpdedgnfeiaaGreatMah
import Derived.Test.YtmnfpdedgnfeiaaGreatMaj
import Derived.Test.YtmnfpdedgnfeiaaGreatMak
import Derived.Test.YtmnfpdedgnfeiaaGreatMal
import Derived.Test.YtmnfpdedgnfeiaaGreatMam
import Derived.Test.YtmnfpdedgnfeiaaGreatMan
import Derived.Test.YtmnfpdedgnfeiaaGreatMao
import Derived.Test.YtmnfpdedgnfeiaaGreatMap
import Derived.Test.YtmnfpdedgnfeiaaGreatMaq
import Derived.Test.YtmnfpdedgnfeiaaGreatMar
import Derived.Test.YtmnfpdedgnfeiaaGreatMas
import Derived.Test.YtmnfpdedgnfeiaaGreatMat
import Derived.Test.YtmnfpdedgnfeiaaGreatMau
import Derived.Test.YtmnfpdedgnfeiaaGreatMav
import Derived.Test.YtmnfpdedgnfeiaaGreatMaw
import Derived.Test.YtmnfpdedgnfeiaaGreatMax
import Derived.Test.YtmnfpdedgnfeiaaGreatMay
set_option linter.all false
noncomputable section
open Option renaming some->A,none->O,getD->Option.g,bind->Option.b
open _root_ renaming rfl->B,List->C,Nat->D,Int->K,if_neg->Ad,if_pos->Af,Option->Aj,Bool->Ak,cond->An,decide_eq_false->Ba,decide_eq_true->Be
open Bool renaming true->L,false->Ac
open Decidable renaming decide->Au
open Nat renaming beq->Bb,le_refl->C6
open List renaming length->List.l,map->List.m,take->List.t,drop->List.d,flatMap->List.f
open Go.IntKind renaming i64->Go.IntKind.n
open Array renaming toList->Array.l
open Eq renaming trans->Eq.t,symm->Eq.s
open Or renaming inl->Or.i,inr->Or.j
open Int renaming toNat->Int.n
namespace Go.Proofs.YtmnfpdedgnfeiaaGreat
open Go.Fg
abbrev B0:=C D
def Cx(a:K):F:=.i .n a
def Z{a:Type}(b:a->C F)(c:C a):F:=.CZ (c.m b)
structure AH where
 Ao:K
 Aw:K
 deriving DecidableEq
def AH.c(a:AH):C F:=[.i .n a.Ao,.i .n a.Aw]
structure AD where
 op:K
 Bk:B0
 n:K
 AT:C AH
 deriving DecidableEq
def AD.c(a:AD):C F:=[.i .u8 a.op,.s a.Bk,.i .n a.n,Z AH.c a.AT]
structure Ab where
 Bk:B0
 Ap:K
 Ay:C AD
 A6:C AH
 Bs:C AH
 deriving DecidableEq
def Ab.c(a:Ab):C F:=[.s a.Bk,.i .n a.Ap,Z AD.c a.Ay,Z AH.c a.A6,Z AH.c a.Bs]
structure M where
 Ai:K
 n:K
 deriving DecidableEq
def M.c(a:M):C F:=[.i .u8 a.Ai,.i .n a.n]
@[simp] theorem AH.Qe(a:AH):a.c.l=2:=rfl
@[simp] theorem AD.Qe (a:AD):a.c.l=4:=rfl
@[simp] theorem Ab.Qe (a:Ab):a.c.l=5:=rfl
@[simp] theorem M.Qe (a:M):a.c.l=2:=rfl
@[simp] theorem Ek {b:Type} (c:b->C F) (a:C b):Ea [Z c a]=A (.i .n a.l):=by unfold Z;simp
theorem Fi {c:Type} {a:c->C F} {f:D} {e:C c} {d:D} {b:c} {i:IntKind} (g:e[d]? =A b) (h:(a b).l=f):AZ f [Z a e,.i i (d:K)]=A (.pi (a b)):=by unfold Z;exact bL (by rw[AiL,g];rfl) h
@[simp] theorem Ahj{a:Type}(b:a->C F)(c:C a):Im (Z b c)=L:=rfl
@[simp] theorem Aha {d:Type} (b:G) (a:d->C F) (c:C d):Dq b (Z a c)=A (Z a c,b):=rfl
@[simp] theorem Agh {c:Type} (a:c->C F) (b:C c):F.I (Z a b)=[Z a b]:=rfl
@[simp] theorem AfN {a:Type} (b:a->C F) (c:C a):FX (Z b c)=L:=rfl
@[simp] theorem Nu (h:Ak) (a:IntKind) (f:K) (b:C D) (c:C F) (g:C (C F)) (d e:C F):Im (.b h)=L/\Im (.i a f)=L/\Im (.s b)=L/\Im .pn=L/\Im (.pi c)=L/\Im (.CZ g)=L/\Im (.mi d e)=L:=⟨B,B,B,B,B,B,B⟩
structure Bc where
 Ao:K
 As:K
 deriving DecidableEq
def Bc.c(a:Bc):C F:=[.i .n a.Ao,.i .n a.As]
structure Cc where
 ES:C Bc
 Ao:K
 deriving DecidableEq
def Cc.c(a:Cc):C F:=[Z Bc.c a.ES,.i .n a.Ao]
def FJ(a:C M):C F:=[Z M.c a]
structure Cv where
 Dj:C M
 I:C (C M)
 Aq:K
 K4:K
 Ln:K
 W4:K
 D3:C Cc
 deriving DecidableEq
def Cv.c(a:Cv):C F:=[Z M.c a.Dj,Z FJ a.I,.i .n a.Aq,.i .n a.K4,.i .n a.Ln,.i .n a.W4,Z Cc.c a.D3]
@[simp] theorem Bc.Qe(a:Bc):a.c.l=2:=rfl
@[simp] theorem Cc.Qe (a:Cc):a.c.l=2:=rfl
@[simp] theorem Af3 (a:C M):(FJ a).l=1:=rfl
@[simp] theorem Cv.Qe (a:Cv):a.c.l=7:=rfl
def NA(a:K):Prop:=IntKind.i64.min<=a/\a<=IntKind.i64.max
def vt(a:K):Prop:=IntKind.u8.min<=a/\a<=IntKind.u8.max
def WL{b:Type}(d:b->Prop)(a:C b):Prop:=(∀c∈a,d c)/\a.l<=maxLen
def Bc.ok(a:Bc):Prop:=NA a.Ao/\NA a.As
def Cc.ok(a:Cc):Prop:=WL Bc.ok a.ES/\NA a.Ao
def M.ok(a:M):Prop:=vt a.Ai/\NA a.n
def Cv.ok(a:Cv):Prop:=WL M.ok a.Dj/\WL (WL M.ok) a.I/\NA a.Aq/\NA a.K4/\NA a.Ln/\NA a.W4/\WL Cc.ok a.D3
def A2(e:D)(d:C F)(f:F):Prop:=∀b a c,F9 b a=A (d,c)->W9 (Ar e) a b=A (f,c)
def KT(a:Aj F)(c:F):Ak:=match a with|some b=>Vn b c|none=>Ac
def SO:∀a:Aa,Aa.eq a a=L
 | .h=>rfl
 | .o a=>SO a
 | .i a=>SO a
def Zp(a:D):Bb a a=L:=AiG a
mutual
def aV:∀b:F,FT b b=L
 | .b c=>Aj6 c
 | .i d c=>by unfold FT;rw[(Pd d d).2 B,Lb];simp
 | .s c=>by unfold FT;rw[NS];simp
 | .p c f=>by unfold FT;rw[SO,Zp];rfl
 | .pn=>rfl
 | .Z c g h i j=>by unfold FT;simp only[SO,Zp,Bool.and_self]
 | .sn=>rfl
 | .m c=>SO c
 | .mn=>rfl
 | .f c a=>by unfold FT;rw[SO,Qa a];rfl
 | .fn=>rfl
 | .S a=>Qa a
 | .AC a=>Qa a
 | .ic f b=>by unfold FT;rw[Zp,aV b];rfl
 | .LL=>rfl
 | .pi a=>Qa a
 | .CZ a=>fF a
 | .mi a e=>by unfold FT;rw[Qa a,Qa e];rfl
def Qa:∀a:C _,Jv a a=L
 |[]=>rfl
 |b::a=>by unfold Jv;rw[aV b,Qa a];rfl
def fF:∀a:C _,Qb a a=L
 |[]=>rfl
 |b::a=>by unfold Qb;rw[Qa b,fF a];rfl
end
def fM(a:F):RD a a=L:=by have b:=aV a;cases a<;>first|exact b|(unfold RD;simp only[SO,Zp,Lb,NS,(Pd _ _).2 B,Aj6];rfl)
def fN:∀a:C _,Vm a a=L
 |[]=>rfl
 |b::a=>by show An (RD b b) (Vm a a) Ac=L;rw[fM,fN a];rfl
def oH(a:F):Vn a a=L:=by have b:=fM a;cases a<;>first|exact b|exact fN _
@[simp] theorem NR(a:F):KT (A a) a=L:=oH a
@[simp] theorem AhS (c:C F) (a:G) (b:F):BV .Dg c a b=KT (AW a c) b:=rfl
@[simp] theorem AhR (b:D) (d:C F) (a:G) (c:F):BV (.ld b) d a c=KT (Bf b a d) c:=rfl
@[simp] theorem AhU (a:D) (b:G):CY a b []=L:=rfl
@[simp] theorem AhT (a:D) (b:G) (d:D) (e:Rd) (g:C F) (f:F) (c:C EZ):CY a b (⟨d,e,g,f⟩::c)=An (An (Nat.testBit a d) L (BV e g b f)) (CY a b c) Ac:=rfl
@[simp] theorem Agv {c:Type} (b:c) (a:C _):CT L b a=b::a:=rfl
@[simp] theorem Agu {c:Type} (b:c) (a:C _):CT Ac b a=a:=rfl
@[simp] theorem AhW (a:D) (b:Rd) (d:C F) (c:F):Er a b d c []=L:=rfl
@[simp] theorem AhV (a:D) (b:Rd) (d:C F) (c:F) (g:D) (e:G) (f:C (D×G)):Er a b d c ((g,e)::f)=An (An (Nat.testBit a g) L (BV b d e c)) (Er a b d c f) Ac:=rfl
def Mr:F->Ak
 | .S a| .f _ a| .AC a=>a.all Im
 |b=>Im b
def sI{b:F}(c:Im b=L)(a:G):Dq a b=A (b,a):=VQ _ a c
def O5{b:F}(a:Mr b=L)(c:G):Dq c b=A (b,c):=by cases b<;>first|exact sF a|exact sH a|exact VS a|(refine sI ?_ c;exact a)
def h5:∀{c:C F}(b:c.all Mr=L)(a:G),F9 a c=A (c,a)
 |[],_,a=>sM a
 |d::c,b,a=>by rw[AiK,Aie]at b;rw[TV,O5 b.1];simp[h5 b.2]
variable{a:D}
def BP{e:C F}{d:F}(i:LO a)(g:KJ (Ar a)=Ac)(h:Mr d=L)(b:∃c,xx W9 a e G.Az=A (d,c)):A2 a e d:=λk j l f=>by
 let⟨c,b⟩:=b
 exact f3 i g f b (O5 h c)
def A2.at{c:D}{b:C F}{d:F}(e:A2 c b d)(f:b.all Mr=L)(a:G):W9 (Ar c) b a=A (d,a):=e a _ a (h5 f a)
def IG(a b:K):K:=if a<b then-1 else if b<a then 1 else 0
def Ji(a b:K):K:=if a≠0 then a else b
def ih(a:K):A2 130 [Cx a] (.b Ac):=BP B B B ⟨G.Az,by rw[vR];simp[Cx]⟩
def ca(a b:K):A2 82 [Cx a,Cx b] (Cx (IG a b)):=BP B B B ⟨G.Az,by have c:=(ih a).at B;have d:=(ih b).at B;unfold Cx at c d;rw[We.1];simp[Cx,c,d,We.2.1,We.2.2.2.1,We.2.2.2.2.1,We.2.2.2.2.2,IG];by_cases e:a<b<;>by_cases f:b<a<;>simp[e,f]⟩
def sU(a b:K):A2 79 [.CZ [[Cx a],[Cx b]]] (Cx (Ji a b)):=BP B B B ⟨G.Az,by
 rw[NH.1];have g:AZ 1 [.CZ [[Cx a],[Cx b]],.i .n 0]=A (.pi [Cx a]):=bL (d:=0) B B;have h:AZ 1 [.CZ [[Cx a],[Cx b]],.i .n 1]=A (.pi [Cx b]):=bL (d:=1) B B;have c:IntKind.wrap .n 1=1:=B;have d:IntKind.wrap .n 2=2:=B;unfold Cx at*;rw[rI,Aig,NH.2.2.1];simp[NH.2.2.2.1,NH.2.2.2.2,NH.2.1,g,c,d,Ji];by_cases e:a=0
 .subst e;simp only[AiJ];rw[NH.2.2.1];simp[NH.2.2.2.1,NH.2.2.2.2,NH.2.1,h,c,d];by_cases f:b=0;.subst f;simp only[AiJ];rw[NH.2.2.1];simp[NH.2.1]
  .grind
 .grind⟩
def gP(a b:K){c:G}{d:Aa}(e:c.N d=A (.I 2 [Cx a,Cx b])):W9 (Ar 79) [.Z d 0 2 3 1] c=A (Cx (Ji a b),c.set d (.rc 2 [Cx a,Cx b])):=
 sU a b c _ _ (by rw[TV,h4 (e:=2) (c:=[Cx a,Cx b]) (by rw[e];rfl) (by grind) (by grind) B];rfl)
theorem fg(c:Aa)(a b:K):CB 2 1 c [.i .n a,.i .n b]=A (.I 2 [.i .n a,.i .n b],.Z c 0 2 3 1):=rfl
def Mc(a b:Bc):K:=Ji (IG a.Ao b.Ao) (IG a.As b.As)
def sW(a b:Bc):A2 81 [.S a.c,.S b.c] (Cx (Mc a b)):=BP B B B (by have c:=(ca a.Ao b.Ao).at B;have d:=(ca a.As b.As).at B;have e:=λf i g=>gP (IG a.Ao b.Ao) (IG a.As b.As) (c:=f) (d:=i) g;unfold Cx at c d e;rw[wL];simp[Cx,Bc.c,c,d,fg,e,Mc])
@[simp] theorem Abs(a:Aa):(a=a.IP)=False:=Ajz λb=>by have:=Aij Aa.num b;rw[Aa.G5]at this;omega
@[simp] theorem Ahz (a:Aa):(a.IP=a)=False:=Ajz λb=>by have:=Aij Aa.num b;rw[Aa.G5]at this;omega
@[simp] theorem Ahv (a:Aa):(a=a.IP.IP)=False:=Ajz λb=>by have:=Aij Aa.num b;rw[Aa.G5,Aa.G5]at this;omega
@[simp] theorem Ahy (a:Aa):(a.IP.IP=a)=False:=Ajz λb=>by have:=Aij Aa.num b;rw[Aa.G5,Aa.G5]at this;omega
theorem Ye {a:D} {c:G} {e:Aa} {d b:C F} (i:e=c.next) (h:b.l=a) (g:Ct b=L):A1 a (c.V (.I a d)) [.p e 0,.S b]=A (Ax,(c.V (.I a d)).set e (.I a b)):=by subst i;show An (An (Bb (BK b) a) (Ct b) Ac) (match(c.V (.I a d)).EY c.next 0 a b with|some f=>A (Ax,f)|none=>O) O=_;rw[HE,h,AiG,g,L8 (a:=a) (i:=d) (by simp)];simp
def GK:C Bc->C Bc->K
 |[],[]=>0
 |[],_::_=> -1
 |_::_,[]=>1
 |a::c,b::d=>if Mc a b≠0 then Mc a b else GK c d
variable{e:Type}
def Eh{b:C e}(c:a<b.l):∃d,b[a]? =A d/\b.d a=d::b.d (a+1):=⟨b[a],by simp[c],by rw[List.drop_eq_getElem_cons c]⟩
def PV(b:a<1000000000):IntKind.wrap .n ((a:K)+1)=((a+1:D):K):=by rw[OJ (by omega) (by omega)];rfl
def Aab(c e:C Bc)(U:c.l<1000000000):∀o a (b:G),c.l-a=o->a<=c.l->a<=e.l->∃q,jj W9 80 3 [Cx c.l,Z Bc.c c,.f (Ar 81) [],Cx a,Z Bc.c c,Z Bc.c e] b=A (Cx (GK (c.d a) (e.d a)),q):=by
 intro o
 induction o with
 |zero=>
  intro a b E F H;have:a=c.l:=by omega
  subst this;rw[Qx.2.2.1];simp only[Cx,E1,Aig,FU,Int.lt_irrefl,AiY,Aiu,AiC];rw[Qx.2.1];simp only[Ek,Aig,E1,FU,Ain];rw[Akq];by_cases j:c.l<e.l;.obtain⟨g,_,p⟩:=Eh j;rw[p,Af (by omega)];exact⟨b,B⟩
  .have:e.l=c.l:=by omega
   rw[Ad (by omega),Qx.2.2.2.2.2.2,<-this,Akq];exact⟨b,B⟩
 |succ o R=>
  intro a b E F H;have I:a<c.l:=by omega
  obtain⟨d,P,r⟩:=Eh I;have v:=Fi (a:=Bc.c) (f:=2) (i:=.n) P B;rw[Qx.2.2.1];have J:(a:K)<c.l:=by omega
  simp only[Cx,E1,Aig,FU,J,AiA,AiJ];rw[Qx.2.2.2.1,v];have u:=λ(b:G)(d:Bc)(S:Aa)(N:S=b.next)=>Ye (a:=2) (c:=b) (d:=[.i .n 0,.i .n 0]) (b:=d.c) N B B;have t:∀(b:G)(d:Bc),Bf 2 b [.pi d.c]=A (.S d.c):=λ_ _=>B;simp only[Aig,t,Tz,u,Ek,K7,FU,Ain];by_cases j:(e.l:K)<=a;.rw[Af j,r,show e.d a=[]from Aiq (by omega)];exact⟨_,B⟩
  .rw[Ad j];have M:a<e.l:=by omega
   obtain⟨g,Q,s⟩:=Eh M;have w:=Fi (a:=Bc.c) (f:=2) (i:=.n) Q B;rw[Qx.2.2.2.2.2.1,w];have x:=(sW d g).at B;have T:=u ((b.V (.I 2 [.i .n 0,.i .n 0])).set b.next (.I 2 d.c)) g b.next.IP B;simp only[Aig,t,Tz,G.M5,G.HG,T,Gk,Adp,G.M5,G.HG,Adn,AiJ,Aix,C6,Abs,AiC,Option.map_some,K8,Aiy,x,Cx,FW,FU];by_cases m:Mc d g=0;.simp only[m,AiA,AiB,Aiu,AiC];rw[Qx.2.2.2.2.1];simp only[MT,Aig,PV (a:=a) (by omega)];obtain⟨q,p⟩:=R (a+1) _ (by omega) (by omega) (by omega);refine⟨q,p.t ?_⟩;rw[r,s];simp[GK,m,Cx]
   .simp only[m,AiY,Ai2,AiJ];have y:GK (d::c.d (a+1)) (g::e.d (a+1))=Mc d g:=by simp[GK,m]
    rw[r,s,y];exact⟨_,B⟩
def sV(a b:C Bc)(e:a.l<1000000000):A2 80 [Z Bc.c a,Z Bc.c b,.f (Ar 81) []] (Cx (GK a b)):=BP B B B (by obtain⟨d,c⟩:=Aab a b e a.l 0 G.Az (by omega) (by omega) (by omega);refine⟨d,?_⟩;rw[Qx.1,Ek,Aig];exact c)
def GL(a b:Cc):K:=Ji (GK a.ES b.ES) (IG a.Ao b.Ao)
def iF(a b:Cc)(g:a.ES.l<1000000000):A2 42 [.S a.c,.S b.c] (Cx (GL a b)):=BP B B B (by have c:=(sV a.ES b.ES g).at B;have d:=(ca a.Ao b.Ao).at B;have e:=λ(f:G)(j:Aa) i=>gP (GK a.ES b.ES) (IG a.Ao b.Ao) (c:=f) (d:=j) i;unfold Cx at c d e;rw[wG];simp[Cx,Cc.c,c,d,fg,e,GL])
def uu(a b:Cc)(d:a.ES.l<1000000000):A2 41 [.S a.c,.S b.c] (.b (Au (GL a b=0))):=BP B B B (by have c:=(iF a b d).at B;unfold Cx Cc.c at c;rw[wF];simp[Cx,Cc.c,c])
def Lv(a:G)(b:Aa):Prop:=b.num<a.next.num
variable{b:Aa}
def Lv.ne{a:G}(d:Lv a b):(b=a.next)=False:=Ajz λc=>by subst c;exact Akr _ d
theorem Lv.V{a:G}(c:Lv a b)(d:Ce):Lv (a.V d) b:=by unfold Lv at c⊢;rw[G.HG,Aa.G5];omega
theorem GD(a:G)(b:Ce):Lv (a.V b) a.next:=by unfold Lv;rw[G.HG,Aa.G5];omega
theorem M3{a:G}{c:Aa}{d:Ce}:Lv (a.set c d) b=Lv a b:=by unfold Lv;rw[G.M5]
def AaC{a:G}{c:Aa}:Lv (a.Hg c) b=Lv a b:=by unfold Lv;rw[G.UD]
theorem Ke{a:G}(c:Lv a b)(d:Ce):(a.V d).N b=a.N b:=by rw[TZ,Ad (by rw[c.ne];exact id)]
theorem I8(a:G)(b:Ce):(a.V b).N a.next=A b:=by rw[TZ,Af B]
def UU{h:Type}:∀(a:Aa)(g:PT h)(c b:Aj h),PT.AM (PT.AM g a c) a b=PT.AM g a b
 | .h,.nil,_,_=>rfl
 | .h,.nd _ _ _,_,_=>rfl
 | .o a,.nil,c,b=>by show PT.nd (PT.AM (PT.AM .nil a c) a b) O .nil=.nd (PT.AM .nil a b) O .nil;rw[UU a]
 | .o a,.nd d f e,c,b=>by show PT.nd (PT.AM (PT.AM d a c) a b) f e=.nd (PT.AM d a b) f e;rw[UU a]
 | .i a,.nil,c,b=>by show PT.nd .nil O (PT.AM (PT.AM .nil a c) a b)=.nd .nil O (PT.AM .nil a b);rw[UU a]
 | .i a,.nd d f e,c,b=>by show PT.nd d f (PT.AM (PT.AM e a c) a b)=.nd d f (PT.AM e a b);rw[UU a]
def W_(a:G)(c b:Ce):(a.V c).set a.next b=a.V b:=by show G.mk _ _=G.mk _ _;congr 1;exact UU _ _ _ _
def FL{b:D}{c:G}{f a:C F}(e:a.l=b)(d:Ct a=L):A1 b (c.V (.I b f)) [.p c.next 0,.S a]=A (Ax,c.V (.I b a)):=by rw[Ye B e d,W_]
def AR(b c:G):Prop:=∀a,Lv b a->c.N a=b.N a/\Lv c a
def AR.refl(a:G):AR a a:=λc b=>⟨B,b⟩
def AR.AQ{d e f:G}(b:AR d e)(g:AR e f):AR d f:=λa c=>⟨((g a (b a c).2).1).t (b a c).1,(g a (b a c).2).2⟩
def AR.V(b:G)(a:Ce):AR b (b.V a):=λd c=>⟨Ke c a,c.V a⟩
theorem AR.lv{b c:G}(d:AR b c){a:Aa}(e:Lv b a):Lv c a:=(d a e).2
theorem AR.N{b c:G}(d:AR b c){a:Aa}(e:Lv b a):c.N a=b.N a:=(d a e).1
def FO(a:G):¬Lv a a.next:=Akr _
def AJ{b:G}{d:Aa}{f:D}{c:C F}(e:b.N d=A (.I f c))(a:D):b.AA d a=c[a]? :=ZW (by rw[e];rfl) a
def EA{e:G}{f:Aa}{d:D}{c:C F}(g:e.N f=A (.I d c))(b a:D):e.AU f b a=if b+a<=d then A (if a=d then c else(c.d b).t a)else O:=UV (by rw[g];rfl) b a
attribute [grind->] AR.N AR.lv
attribute [grind .] GD
attribute [grind=>] Lv.V
attribute [grind=] Ke I8 M3
structure BU where
 Cy:K
 Cq:K
 deriving DecidableEq
def BU.c(a:BU):C F:=[.i .n a.Cy,.i .n a.Cq]
structure AG where
 I:C M
 AV:C BU
 deriving DecidableEq
def AG.c(a:AG):C F:=[Z M.c a.I,Z BU.c a.AV]
structure BM where
 Cq:K
 v:M
 deriving DecidableEq
def BM.c(a:BM):C F:=[.i .n a.Cq,.i .u8 a.v.Ai,.i .n a.v.n]
def Bq(a:K):C F:=[.i .n a]
def Db(a:Ak):C F:=[.b a]
def CG(a:C K):C F:=[Z Bq a]
structure Cg where
 A4:K
 AN:K
 Ao:K
 As:K
 Ap:C M
 AB:C (C M)
 AI:C K
 deriving DecidableEq
def Cg.c(a:Cg):C F:=[.i .n a.A4,.i .n a.AN,.i .n a.Ao,.i .n a.As,Z M.c a.Ap,Z FJ a.AB,Z Bq a.AI]
structure A8 where
 F3:K
 Ao:K
 deriving DecidableEq
def A8.c(a:A8):C F:=[.i .n a.F3,.i .n a.Ao]
structure BC where
 As:K
 next:Ak
 is:Ak
 deriving DecidableEq
def BC.c(a:BC):C F:=[.i .n a.As,.b a.next,.b a.is]
structure AS where
 l:C (C K)
 BO:C Ak
 deriving DecidableEq
def AS.c(a:AS):C F:=[Z CG a.l,Z Db a.BO]
structure Cr where
 Dj:C M
 I:C (C M)
 deriving DecidableEq
def Cr.c(a:Cr):C F:=[Z M.c a.Dj,Z FJ a.I]
variable{f:Type}
def H{a:Type}{d:Aj a}{c:a}(e:d=A c)(b:a->Aj f):d.b b=b c:=by rw[e];rfl
variable{d:Type}
@[congr] def AfT{b c:Aj d}(e:b=c)(a:d->Aj f):b.b a=c.b a:=by rw[e]
@[congr] theorem Agm (c d:R) {a b:F} (e:a=b):Dw c d a=Dw c d b:=by rw[e]
@[congr] theorem Agl {f:Type} {a b:Ak} (e:a=b) (c d:f):An a c d=An b c d:=by rw[e]
@[congr] theorem blC {d e:F} {b c:G} (f:d=e) (g:b=c) (a:F->G->R):bl d b a=bl e c a:=by rw[f,g]
theorem A2.H {h:Type} {d:D} {a:C F} {e:F} (f:A2 d a e) (g:a.all Mr=L) (b:G) (c:F×G->Aj h):(W9 (Ar d) a b).b c=c (e,b):=by rw[f.at g b];rfl
def TC(a:G)(c:D)(b:C F):(a.V (.I c b)).N a.next=A (.I c b):=I8 _ _
def o1(a:G)(d:D)(b:C F)(e:D)(c:F->Aj f):((a.V (.I d b)).AA a.next e).b c=(b[e]?).b c:=by rw[AJ (TC a d b)]
def o8(a:G)(c:D)(b:C F)(d:C F->Aj e):((a.V (.I c b)).AU a.next 0 c).b d=d b:=by rw[EA (TC a c b),Af (by omega),Af B];rfl
def Vq(a:G)(c:D)(b:C F)(d:Ce):((a.V (.I c b)).V d).N a.next=A (.I c b):=(Ke (GD _ _) _).t (I8 _ _)
variable{g:Type}
def o3(a:G)(d:D)(b:C F)(f:Ce)(e:D)(c:F->Aj g):(((a.V (.I d b)).V f).AA a.next e).b c=(b[e]?).b c:=by rw[AJ (Vq a d b f)]
def o9(a:G)(c:D)(b:C F)(e:Ce)(d:C F->Aj f):(((a.V (.I c b)).V e).AU a.next 0 c).b d=d b:=by rw[EA (Vq a c b e),Af (by omega),Af B];rfl
def X3(a:G)(c:D)(b:C F)(d e:Ce):(((a.V (.I c b)).V d).V e).N a.next=A (.I c b):=(Ke (Lv.V (GD _ _) _) _).t ((Ke (GD _ _) _).t (I8 _ _))
def o4{h:Type}(a:G)(d:D)(b:C F)(f g:Ce)(e:D)(c:F->Aj h):((((a.V (.I d b)).V f).V g).AA a.next e).b c=(b[e]?).b c:=by rw[AJ (X3 a d b f g)]
def o_(a:G)(c:D)(b:C F)(e f:Ce)(d:C F->Aj g):((((a.V (.I c b)).V e).V f).AU a.next 0 c).b d=d b:=by rw[EA (X3 a c b e f),Af (by omega),Af B];rfl
def X4(a:G)(c:D)(b:C F)(e f d:Ce):((((a.V (.I c b)).V e).V f).V d).N a.next=A (.I c b):=(Ke (Lv.V (Lv.V (GD _ _) _) _) _).t ((Ke (Lv.V (GD _ _) _) _).t ((Ke (GD _ _) _).t (I8 _ _)))
def o5{i:Type}(a:G)(d:D)(b:C F)(g h f:Ce)(e:D)(c:F->Aj i):(((((a.V (.I d b)).V g).V h).V f).AA a.next e).b c=(b[e]?).b c:=by rw[AJ (X4 a d b g h f)]
def pa{h:Type}(a:G)(c:D)(b:C F)(f g e:Ce)(d:C F->Aj h):(((((a.V (.I c b)).V f).V g).V e).AU a.next 0 c).b d=d b:=by rw[EA (X4 a c b f g e),Af (by omega),Af B];rfl
def Q:
 (∀{h b:Type}(k:h)(a:h->Aj b),(A k).b a=a k)/\
 (∀{h b x:Type}(g:Aj h)(o:h->Aj b)(u:b->Aj x),(g.b o).b u=g.b λk=>(o k).b u)/\
 (∀{h b:Type}(k:h)(j:b),(k,j).1=k)/\
 (∀{h b:Type}(k:h)(j:b),(k,j).2=j)/\
 (∀(q:F)(e:G)(f:D)(k:F)(c:C F)(p:F->G->R),bl q (e.V (.I f (k::c))) p=p q (e.V (.I f (k::c))))/\
 (∀(q:F)(e:G)(c:C BL)(r:D)(p:F->G->R),bl q (e.V (.Bu c r)) p=p q (e.V (.Bu c r)))/\
 (∀{b:Type}(f:D)(j:Aa)(a:F->Aj b),(Bt f [.p j 0]).b a=a (.p j f))/\
 (∀{b:Type}(f:D)(c:C F)(a:F->Aj b),(Bt f [.pi c]).b a=a (.pi (c.d f)))/\
 (∀{b:Type}(e:G)(j:Aa)(i:D)(a:F->Aj b),(AW e [.p j i]).b a=(e.AA j i).b a)/\
 (∀{b:Type}(f:D)(e:G)(j:Aa)(i:D)(a:F->Aj b),(Bf f e [.p j i]).b a=(e.AU j i f).b λc=>a (.S c))/\
 (∀{b:Type}(j:Aa)(i:D)(a:F->Aj b),(DT [.p j i]).b a=a (.p j i))/\
 (∀{b:Type}(c:C F)(a:F->Aj b),(DT [.pi c]).b a=a (.pi c))/\
 (∀{h b:Type}(o:h->C F)(c:C h)(a:F->Aj b),(Ea [Z o c]).b a=a (.i .n c.l))/\
 (∀{b:Type}(j:Aa)(i f r m:D)(a:F->Aj b),(Ea [.Z j i f r m]).b a=a (.i .n f))/\
 (∀{b:Type}(c:C D)(a:F->Aj b),(H2 [.s c]).b a=a (.i .n c.l))/\
 (∀{b:Type}(n:F)(c:C F)(a:F->Aj b),(Ca 0 [.AC (n::c)]).b a=a n)/\
 (∀{b:Type}(n s:F)(c:C F)(a:F->Aj b),(Ca 1 [.AC (n::s::c)]).b a=a s)/\
 (∀{b:Type}(n s v:F)(c:C F)(a:F->Aj b),(Ca 2 [.AC (n::s::v::c)]).b a=a v)/\
 (∀{h b:Type}(g d:Aj h)(a:h->Aj b),(An (AO Ac (.b Ac)) g d).b a=g.b a)/\
 (∀{h b:Type}(g d:Aj h)(a:h->Aj b),(An (AO Ac (.b L)) g d).b a=d.b a)/\
 (∀{h b:Type}(g d:Aj h)(a:h->Aj b),(An (AO L (.b Ac)) g d).b a=d.b a)/\
 (∀{h b:Type}(g d:Aj h)(a:h->Aj b),(An (AO L (.b L)) g d).b a=g.b a)/\
 (∀{h b:Type}(w:Ak)(g d:Aj h)(a:h->Aj b),(An (AO w Ax) g d).b a=d.b a)/\
 (∀{b:Type}(g d:F)(a:F->Aj b),(C8 [.b L,g,d]).b a=a g)/\
 (∀{b:Type}(g d:F)(a:F->Aj b),(C8 [.b Ac,g,d]).b a=a d)/\
 (∀(g d:R),Dw g d (.b L)=g)/\
 (∀(g d:R),Dw g d (.b Ac)=d)/\
 (∀(g d:R)(l:Prop)[Decidable l],Dw g d (.b (Au l))=if l then g else d)/\
 (∀(g d:R)(l:Prop)[Decidable l],Dw g d (.b (!Au l))=if l then d else g)/\
 (∀{b:Type}(a:F->Aj b),(DW [.b L]).b a=a (.b Ac))/\
 (∀{b:Type}(a:F->Aj b),(Fx Ac [.b L,.b L]).b a=a (.b L))/\
 (∀{b:Type}(a:F->Aj b),(Fx L [.b L,.b L]).b a=a (.b Ac))/\
 (∀{b:Type}(a:F->Aj b),(Fx Ac [.b L,.b Ac]).b a=a (.b Ac))/\
 (∀{b:Type}(a:F->Aj b),(Fx L [.b L,.b Ac]).b a=a (.b L))/\
 (∀{b:Type}(a:F->Aj b),(DW [.b Ac]).b a=a (.b L))/\
 (∀{b:Type}(a:F->Aj b),(Fx Ac [.b Ac,.b L]).b a=a (.b Ac))/\
 (∀{b:Type}(a:F->Aj b),(Fx L [.b Ac,.b L]).b a=a (.b L))/\
 (∀{b:Type}(a:F->Aj b),(Fx Ac [.b Ac,.b Ac]).b a=a (.b L))/\
 (∀{b:Type}(a:F->Aj b),(Fx L [.b Ac,.b Ac]).b a=a (.b Ac))/\
 (∀{b:Type}(e:G)(f:D)(c:C F)(i:D)(a:F->Aj b),((e.V (.I f c)).AA e.next i).b a=(c[i]?).b a)/\
 (∀{b:Type}(e:G)(f:D)(c:C F)(a:C F->Aj b),((e.V (.I f c)).AU e.next 0 f).b a=a c)/\
 (∀{b:Type}(e:G)(f:D)(c:C F)(d:Ce)(i:D)(a:F->Aj b),(((e.V (.I f c)).V d).AA e.next i).b a=(c[i]?).b a)/\
 (∀{b:Type}(e:G)(f:D)(c:C F)(d:Ce)(a:C F->Aj b),(((e.V (.I f c)).V d).AU e.next 0 f).b a=a c)/\
 (∀{b:Type}(e:G)(f:D)(c:C F)(d m:Ce)(i:D)(a:F->Aj b),((((e.V (.I f c)).V d).V m).AA e.next i).b a=(c[i]?).b a)/\
 (∀{b:Type}(e:G)(f:D)(c:C F)(d m:Ce)(a:C F->Aj b),((((e.V (.I f c)).V d).V m).AU e.next 0 f).b a=a c)/\
 (∀{b:Type}(e:G)(f:D)(c:C F)(d m t:Ce)(i:D)(a:F->Aj b),(((((e.V (.I f c)).V d).V m).V t).AA e.next i).b a=(c[i]?).b a)/\
 (∀{b:Type}(e:G)(f:D)(c:C F)(d m t:Ce)(a:C F->Aj b),(((((e.V (.I f c)).V d).V m).V t).AU e.next 0 f).b a=a c):=
 ⟨Rl,
  λg _ _=>by cases g<;>rfl,
  Rl,
  Rl,
  Rl,
  Rl,
  λf j a=>by rw[F6,Aix];rfl,
  Rl,
  Rl,
  λf e j i a=>by rw[Gk];cases e.AU j i f<;>rfl,
  Rl,
  Rl,
  λo c a=>by rw[Ek];rfl,
  Rl,
  λc a=>by rw[rJ];rfl,
  Rl,
  Rl,
  Rl,
  Rl,
  Rl,
  Rl,
  Rl,
  Rl,
  Rl,
  Rl,
  Rl,
  Rl,
  λg d l _=>by by_cases e:l<;>simp[e],
  λg d l _=>by by_cases e:l<;>simp[e],
  Rl,
  Rl,
  Rl,
  Rl,
  Rl,
  Rl,
  Rl,
  Rl,
  Rl,
  Rl,
  o1,
  o8,
  o3,
  o9,
  o4,
  o_,
  o5,
  pa⟩
def QC:
 (∀{e:Type}(d:IntKind)(b c:K)(a:F->Aj e),(A7 .lss [.i d b,.i d c]).b a=a (.b (Au (b<c))))/\
 (∀{e:Type}(d:IntKind)(b c:K)(a:F->Aj e),(A7 .leq [.i d b,.i d c]).b a=a (.b (Au (b<=c))))/\
 (∀{e:Type}(d:IntKind)(b c:K)(a:F->Aj e),(A7 .geq [.i d b,.i d c]).b a=a (.b (Au (c<=b))))/\
 (∀{e:Type}(d:IntKind)(b c:K)(a:F->Aj e),(A7 .eql [.i d b,.i d c]).b a=a (.b (Au (b=c))))/\
 (∀{e:Type}(d:IntKind)(b c:K)(a:F->Aj e),(A7 .neq [.i d b,.i d c]).b a=a (.b (!Au (b=c))))/\
 (∀{e:Type}(b c:C D)(a:F->Aj e),(F4 .eql [.s b,.s c]).b a=a (.b (Au (b=c)))):=
 ⟨λd b c a=>by rw[E1];rfl,
  λd b c a=>by rw[Qm];rfl,
  λd b c a=>by rw[K7];rfl,
  λd b c a=>by rw[Cz];rfl,
  λd b c a=>by rw[FW];rfl,
  λb c a=>by rw[Qn];rfl⟩
def QP:
 (∀{d:Type}(c e:Ak)(a:F->Aj d),(C8 [.b c,.b e,.b Ac]).b a=a (.b (c&&e))):=
 λc e a=>by cases c<;>rfl
def BF(b:a<1000000000):A7 .add [.i .n (a:K),.i .n 1]=A (.i .n ((a+1:D):K)):=by rw[MT,PV b]
def Gu{a b:K}(c: -9223372036854775808<=a-b)(d:a-b<=9223372036854775807):A7 .sub [.i .n a,.i .n b]=A (.i .n (a-b)):=by rw[bK,OJ c d]
def GJ{a b:K}(c: -9223372036854775808<=a+b)(d:a+b<=9223372036854775807):A7 .add [.i .n a,.i .n b]=A (.i .n (a+b)):=by rw[MT,OJ c d]
def Afo{b:Ak}(e:b=L)(c f:Aj d)(a:d->Aj g):(An (AO L (.b b)) c f).b a=c.b a:=by rw[e];rfl
def Afm{b:Ak}(e:b=Ac)(f c:Aj d)(a:d->Aj g):(An (AO L (.b b)) f c).b a=c.b a:=by rw[e];rfl
def VA{c:Ak}(e:c=L)(b:d)(a:d->Aj f):(An c (A b) O).b a=a b:=by rw[e];rfl
def MP{a:Ak}(c:a=L)(b d:e):An (An a L Ac) b d=b:=by rw[c];rfl
def Jz{a:Ak}(c:a=L)(b d:e):An a b d=b:=by rw[c];rfl
def wV{a:G}{c:D}{b:C F}:Bf c (a.V (.I c b)) [.p a.next 0]=A (.S b):=by rw[Gk,EA (TC a c b),Af (by omega),Af B];rfl
def wW{a:G}{c:D}{b:C F}{d:Ce}:Bf c ((a.V (.I c b)).V d) [.p a.next 0]=A (.S b):=by rw[Gk,EA (Vq a c b d),Af (by omega),Af B];rfl
def QS:
 (∀(f:D)(b:G),CY f b []=L)/\
 (∀(f:D)(b:G)(d:D)(i:Rd)(j:C F)(e:F)(c:C EZ),CY f b (⟨d,i,j,e⟩::c)=An (An (Nat.testBit f d) L (BV i j b e)) (CY f b c) Ac)/\
 (∀(f:D)(i:Rd)(j:C F)(e:F),Er f i j e []=L)/\
 (∀(f:D)(i:Rd)(j:C F)(e:F)(d:D)(b:G)(c:C (D×G)),Er f i j e ((d,b)::c)=An (An (Nat.testBit f d) L (BV i j b e)) (Er f i j e c) Ac)/\
 (∀(b:G)(f:Aa)(h:D)(e:F),BV .Dg [.p f h] b e=KT (b.AA f h) e)/\
 (∀(b:G)(a:C F)(e:F),BV .Dg [.pi a] b e=KT (a[0]?) e)/\
 (∀(b:G)(d:D)(a:C F)(e:F),BV (.ld d) a b e=KT (Bf d b a) e)/\
 (∀(e:F),KT (A e) e=L)/\
 (∀(f:Ak),An f L L=L)/\
 (∀{g:Type}(a k:g),An L a k=a)/\
 (∀{g:Type}(a:g)(c:C g),CT (AO Ac (.b Ac)) a c=a::c)/\
 (∀{g:Type}(a:g)(c:C g),CT (AO Ac (.b L)) a c=c)/\
 (∀{g:Type}(a:g)(c:C g),CT (AO L (.b Ac)) a c=c)/\
 (∀{g:Type}(a:g)(c:C g),CT (AO L (.b L)) a c=a::c)/\
 (∀{b:G}{d:D}{c:C F},Bf d (b.V (.I d c)) [.p b.next 0]=A (.S c))/\
 (∀(b:G)(d:D)(c:C F)(h:D),(b.V (.I d c)).AA b.next h=c[h]?)/\
 (∀(b:G)(d:D)(c:C F)(k:Ce)(h:D),((b.V (.I d c)).V k).AA b.next h=c[h]?)/\
 (∀(a:AH),(AH.c a)[0]? =A (.i .n a.Ao))/\
 (∀(a:AH),(AH.c a)[1]? =A (.i .n a.Aw))/\
 (∀(b:G)(a:AH),Bf 2 b [.pi (AH.c a)]=A (.S (AH.c a)))/\
 (∀(a:AD),(AD.c a)[0]? =A (.i .u8 a.op))/\
 (∀(a:AD),(AD.c a)[1]? =A (.s a.Bk))/\
 (∀(a:AD),(AD.c a)[2]? =A (.i .n a.n))/\
 (∀(a:AD),(AD.c a)[3]? =A (Z AH.c a.AT))/\
 (∀(b:G)(a:AD),Bf 4 b [.pi (AD.c a)]=A (.S (AD.c a)))/\
 (∀(a:Ab),(Ab.c a)[0]? =A (.s a.Bk))/\
 (∀(a:Ab),(Ab.c a)[1]? =A (.i .n a.Ap))/\
 (∀(a:Ab),(Ab.c a)[2]? =A (Z AD.c a.Ay))/\
 (∀(a:Ab),(Ab.c a)[3]? =A (Z AH.c a.A6))/\
 (∀(a:Ab),(Ab.c a)[4]? =A (Z AH.c a.Bs))/\
 (∀(b:G)(a:Ab),Bf 5 b [.pi (Ab.c a)]=A (.S (Ab.c a)))/\
 (∀(a:M),(M.c a)[0]? =A (.i .u8 a.Ai))/\
 (∀(a:M),(M.c a)[1]? =A (.i .n a.n))/\
 (∀(b:G)(a:M),Bf 2 b [.pi (M.c a)]=A (.S (M.c a)))/\
 (∀(a:BM),(BM.c a)[0]? =A (.i .n a.Cq))/\
 (∀(a:A8),(A8.c a)[0]? =A (.i .n a.F3))/\
 (∀(a:A8),(A8.c a)[1]? =A (.i .n a.Ao))/\
 (∀(a:AS),(AS.c a)[0]? =A (Z CG a.l))/\
 (∀(a:AS),(AS.c a)[1]? =A (Z Db a.BO)):=
 ⟨Rl,
  Rl,
  Rl,
  Rl,
  Rl,
  Rl,
  Rl,
  NR,
  λf=>by cases f<;>rfl,
  Rl,
  Rl,
  Rl,
  Rl,
  Rl,
  wV,
  λb d c h=>AJ (TC b d c) h,
  λb d c k h=>AJ (Vq b d c k) h,
  Rl,
  Rl,
  Rl,
  Rl,
  Rl,
  Rl,
  Rl,
  Rl,
  Rl,
  Rl,
  Rl,
  Rl,
  Rl,
  Rl,
  Rl,
  Rl,
  Rl,
  Rl,
  Rl,
  Rl,
  Rl,
  Rl⟩
def QB:(∀a:Ak,(L||a)=L)/\(∀a:Ak,(Ac||a)=a)/\(∀a:Ak,(a||true)=L)/\(∀a:Ak,(a||false)=a)/\(∀a:Ak,(L&&a)=a)/\(∀a:Ak,(Ac&&a)=Ac)/\(∀a:Ak,(a&&L)=a)/\(∀a:Ak,(a&&Ac)=Ac)/\(!L)=Ac/\(!Ac)=L/\((Ac=L)=False)/\((L=L)=True)/\((L=Ac)=False)/\((Ac=Ac)=True)/\(L !=L)=Ac/\(L !=Ac)=L/\(Ac !=L)=L/\(Ac !=Ac)=Ac:=
 ⟨Rl,Rl,λa=>by cases a<;>rfl,λa=>by cases a<;>rfl,Rl,Rl,λa=>by cases a<;>rfl,λa=>by cases a<;>rfl,B,B,by simp,by simp,by simp,by simp,B,B,B,B⟩
def QD:
 (∀{c:Type}(d:G)(a:AD)(b:F->Aj c),(AW d [.pi ((AD.c a).d 0)]).b b=b (.i .u8 a.op))/\
 (∀{c:Type}(a:AD)(b:F->Aj c),((AD.c a)[0]?).b b=b (.i .u8 a.op))/\
 (∀{c:Type}(d:G)(a:AD)(b:F->Aj c),(AW d [.pi ((AD.c a).d 1)]).b b=b (.s a.Bk))/\
 (∀{c:Type}(a:AD)(b:F->Aj c),((AD.c a)[1]?).b b=b (.s a.Bk))/\
 (∀{c:Type}(a:AD)(b:F->Aj c),((AD.c a)[2]?).b b=b (.i .n a.n))/\
 (∀{c:Type}(d:G)(a:AD)(b:F->Aj c),(AW d [.pi ((AD.c a).d 3)]).b b=b (Z AH.c a.AT))/\
 (∀{c:Type}(a:AD)(b:F->Aj c),((AD.c a)[3]?).b b=b (Z AH.c a.AT))/\
 (∀{c:Type}(d:G)(a:AD)(b:F->Aj c),(Bf 4 d [.pi (AD.c a)]).b b=b (.S (AD.c a)))/\
 (∀(d:G)(a:AD)(e:F->G->R),bl (.p d.next 0) (d.V (.I (BK (F.I (.S (AD.c a)))) (F.I (.S (AD.c a))))) e=e (.p d.next 0) (d.V (.I 4 (AD.c a))))/\
 (∀{c:Type}(d:G)(f:C F)(a:AD)(b:F×G->Aj c),(A1 4 (d.V (.I 4 f)) [.p d.next 0,.S (AD.c a)]).b b=b (Ax,d.V (.I 4 (AD.c a))))/\
 (∀{c:Type}(d:G)(a:Ab)(b:F->Aj c),(AW d [.pi ((Ab.c a).d 0)]).b b=b (.s a.Bk))/\
 (∀{c:Type}(a:Ab)(b:F->Aj c),((Ab.c a)[0]?).b b=b (.s a.Bk))/\
 (∀{c:Type}(d:G)(a:Ab)(b:F->Aj c),(AW d [.pi ((Ab.c a).d 1)]).b b=b (.i .n a.Ap))/\
 (∀{c:Type}(a:Ab)(b:F->Aj c),((Ab.c a)[1]?).b b=b (.i .n a.Ap))/\
 (∀{c:Type}(d:G)(a:Ab)(b:F->Aj c),(AW d [.pi ((Ab.c a).d 2)]).b b=b (Z AD.c a.Ay))/\
 (∀{c:Type}(a:Ab)(b:F->Aj c),((Ab.c a)[2]?).b b=b (Z AD.c a.Ay))/\
 (∀{c:Type}(d:G)(a:Ab)(b:F->Aj c),(AW d [.pi ((Ab.c a).d 3)]).b b=b (Z AH.c a.A6))/\
 (∀{c:Type}(a:Ab)(b:F->Aj c),((Ab.c a)[3]?).b b=b (Z AH.c a.A6))/\
 (∀{c:Type}(d:G)(a:Ab)(b:F->Aj c),(AW d [.pi ((Ab.c a).d 4)]).b b=b (Z AH.c a.Bs))/\
 (∀{c:Type}(a:Ab)(b:F->Aj c),((Ab.c a)[4]?).b b=b (Z AH.c a.Bs))/\
 (∀{c:Type}(d:G)(a:Ab)(b:F->Aj c),(Bf 5 d [.pi (Ab.c a)]).b b=b (.S (Ab.c a)))/\
 (∀(d:G)(a:Ab)(e:F->G->R),bl (.p d.next 0) (d.V (.I (BK (F.I (.S (Ab.c a)))) (F.I (.S (Ab.c a))))) e=e (.p d.next 0) (d.V (.I 5 (Ab.c a))))/\
 (∀{c:Type}(d:G)(f:C F)(a:Ab)(b:F×G->Aj c),(A1 5 (d.V (.I 5 f)) [.p d.next 0,.S (Ab.c a)]).b b=b (Ax,d.V (.I 5 (Ab.c a))))/\
 (∀{c:Type}(d:G)(a:M)(b:F->Aj c),(AW d [.pi ((M.c a).d 0)]).b b=b (.i .u8 a.Ai))/\
 (∀{c:Type}(a:M)(b:F->Aj c),((M.c a)[0]?).b b=b (.i .u8 a.Ai))/\
 (∀{c:Type}(a:M)(b:F->Aj c),((M.c a)[1]?).b b=b (.i .n a.n))/\
 (∀{c:Type}(d:G)(a:M)(b:F->Aj c),(Bf 2 d [.pi (M.c a)]).b b=b (.S (M.c a)))/\
 (∀(d:G)(a:M)(e:F->G->R),bl (.p d.next 0) (d.V (.I (BK (F.I (.S (M.c a)))) (F.I (.S (M.c a))))) e=e (.p d.next 0) (d.V (.I 2 (M.c a))))/\
 (∀{c:Type}(d:G)(f:C F)(a:M)(b:F×G->Aj c),(A1 2 (d.V (.I 2 f)) [.p d.next 0,.S (M.c a)]).b b=b (Ax,d.V (.I 2 (M.c a))))/\
 (∀{c:Type}(d:G)(a:AG)(b:F->Aj c),(AW d [.pi ((AG.c a).d 0)]).b b=b (Z M.c a.I))/\
 (∀{c:Type}(a:AG)(b:F->Aj c),((AG.c a)[0]?).b b=b (Z M.c a.I))/\
 (∀{c:Type}(d:G)(a:AG)(b:F->Aj c),(AW d [.pi ((AG.c a).d 1)]).b b=b (Z BU.c a.AV))/\
 (∀{c:Type}(d:G)(a:AG)(b:F->Aj c),(Bf 2 d [.pi (AG.c a)]).b b=b (.S (AG.c a)))/\
 (∀{c:Type}(d:G)(f:C F)(a:AG)(b:F×G->Aj c),(A1 2 (d.V (.I 2 f)) [.p d.next 0,.S (AG.c a)]).b b=b (Ax,d.V (.I 2 (AG.c a))))/\
 (∀{c:Type}(a:AS)(b:F->Aj c),((AS.c a)[1]?).b b=b (Z Db a.BO))/\
 (∀(d:G)(a:AS)(e:F->G->R),bl (.p d.next 0) (d.V (.I (BK (F.I (.S (AS.c a)))) (F.I (.S (AS.c a))))) e=e (.p d.next 0) (d.V (.I 2 (AS.c a)))):=
 ⟨Rl,
  Rl,
  Rl,
  Rl,
  Rl,
  Rl,
  Rl,
  Rl,
  Rl,
  λd f a b=>H (FL B B) b,
  Rl,
  Rl,
  Rl,
  Rl,
  Rl,
  Rl,
  Rl,
  Rl,
  Rl,
  Rl,
  Rl,
  Rl,
  λd f a b=>H (FL B B) b,
  Rl,
  Rl,
  Rl,
  Rl,
  Rl,
  λd f a b=>H (FL B B) b,
  Rl,
  Rl,
  Rl,
  Rl,
  λd f a b=>H (FL B B) b,
  Rl,
  Rl⟩
def QT:
 (∀{f:Type}(d:IntKind)(a b:K)(c:F->Aj f),a<b->(A7 .lss [.i d a,.i d b]).b c=c (.b L))/\
 (∀{f:Type}(d:IntKind)(a b:K)(c:F->Aj f),¬(a<b)->(A7 .lss [.i d a,.i d b]).b c=c (.b Ac))/\
 (∀{f:Type}(d:IntKind)(a b:K)(c:F->Aj f),a<=b->(A7 .leq [.i d a,.i d b]).b c=c (.b L))/\
 (∀{f:Type}(d:IntKind)(a b:K)(c:F->Aj f),¬(a<=b)->(A7 .leq [.i d a,.i d b]).b c=c (.b Ac))/\
 (∀{f:Type}(d:IntKind)(a b:K)(c:F->Aj f),b<a->(A7 .gtr [.i d a,.i d b]).b c=c (.b L))/\
 (∀{f:Type}(d:IntKind)(a b:K)(c:F->Aj f),¬(b<a)->(A7 .gtr [.i d a,.i d b]).b c=c (.b Ac))/\
 (∀{f:Type}(d:IntKind)(a b:K)(c:F->Aj f),b<=a->(A7 .geq [.i d a,.i d b]).b c=c (.b L))/\
 (∀{f:Type}(d:IntKind)(a b:K)(c:F->Aj f),¬(b<=a)->(A7 .geq [.i d a,.i d b]).b c=c (.b Ac))/\
 (∀{f:Type}(d:IntKind)(a b:K)(c:F->Aj f),a=b->(A7 .eql [.i d a,.i d b]).b c=c (.b L))/\
 (∀{f:Type}(d:IntKind)(a b:K)(c:F->Aj f),¬(a=b)->(A7 .eql [.i d a,.i d b]).b c=c (.b Ac))/\
 (∀{f:Type}(d:IntKind)(a b:K)(c:F->Aj f),a=b->(A7 .neq [.i d a,.i d b]).b c=c (.b Ac))/\
 (∀{f:Type}(d:IntKind)(a b:K)(c:F->Aj f),¬(a=b)->(A7 .neq [.i d a,.i d b]).b c=c (.b L))/\
 (∀{f:Type}(a b:C D)(c:F->Aj f),¬(a=b)->(F4 .eql [.s a,.s b]).b c=c (.b Ac)):=
 ⟨λd a b c e=>by rw[E1,Be e];rfl,
  λd a b c e=>by rw[E1,Ba e];rfl,
  λd a b c e=>by rw[Qm,Be e];rfl,
  λd a b c e=>by rw[Qm,Ba e];rfl,
  λd a b c e=>by rw[E6,Be e];rfl,
  λd a b c e=>by rw[E6,Ba e];rfl,
  λd a b c e=>by rw[K7,Be e];rfl,
  λd a b c e=>by rw[K7,Ba e];rfl,
  λd a b c e=>by rw[Cz,Be e];rfl,
  λd a b c e=>by rw[Cz,Ba e];rfl,
  λd a b c e=>by rw[FW,Be e];rfl,
  λd a b c e=>by rw[FW,Ba e];rfl,
  λa b c e=>by rw[Qn,Ba e];rfl⟩
def ZR:(∀(i:F)(c:G)(e:F->G->R),bl i c e=e i c)/\(∀f,F.I (.S f)=f)/\((¬False)=True)/\(∀(b:Aa)(h:D),Bt 0 [.p b h]=A (.p b h))/\(∀(g:D)(b:Aa)(d j:D),Bt g [.p b (d*j)]=A (.p b (d*j+g)))/\(∀a,BK (AH.c a)=2)/\(∀a,BK (AD.c a)=4)/\(∀a,BK (Ab.c a)=5)/\(∀a,BK (M.c a)=2)/\(∀a,BK (Bc.c a)=2)/\(∀a,BK (Cc.c a)=2)/\(∀a,BK (BU.c a)=2)/\(∀a,BK (AG.c a)=2)/\(∀a,BK (BM.c a)=3)/\(∀a,BK (Cg.c a)=7)/\(∀a,BK (A8.c a)=2)/\(∀a,BK (BC.c a)=3)/\(∀a,BK (AS.c a)=2)/\(∀a,BK (Cr.c a)=2):=
 ⟨λ_ _ _=>B,λ_=>B,Aic,λ_ _=>B,λ_ _ _ _=>B,λ_=>B,λ_=>B,λ_=>B,λ_=>B,λ_=>B,λ_=>B,λ_=>B,λ_=>B,λ_=>B,λ_=>B,λ_=>B,λ_=>B,λ_=>B,λ_=>B⟩
def QZ:=And.intro Q (And.intro QT (And.intro QD ZR))
def oi:Aj F->Ak
 |some _=>L
 |none=>Ac
def ix:Aj Ce->D->Aj F
 |some (.I _ b),a=>b[a]?
 |_,_=>O
def rx:Aj Ce->D->Aj F
 |some (.I b a),c=>An (Bb b c) (A (.S a)) O
 |_,_=>O
def nt{e:G}{f:Aa}{c:Aj Ce}(h:e.N f=c)(b:oi (ix c a)=L):e.AA f a=ix c a:=by
 subst h
 cases d:e.N f with
 |none=>rw[d]at b;cases b
 |some g=>
  cases g with
  |I j i=>exact AJ d a
  |_=>rw[d]at b;cases b
def nu{e:G}{g:Aa}{b:D}{d:Aj Ce}(k:e.N g=d)(a:oi (rx d b)=L):Bf b e [.p g 0]=rx d b:=by
 subst k
 cases c:e.N g with
 |none=>rw[c]at a;cases a
 |some j=>
  cases j with
  |I f h=>
   rw[c]at a
   have a:oi (An (Bb f b) (A (F.S h)) O)=L:=a
   show _=An (Bb f b) (A (F.S h)) O
   cases i:Bb f b with
   |false=>rw[i]at a;cases a
   |true=>rw[Aii i]at c;rw[Gk,EA c,Af (by omega),Af B];rfl
  |_=>rw[c]at a;cases a
def RX:(∀e,oi (A e)=L)/\(∀c a b,ix (A (.I c a)) b=a[b]?)/\(∀c a,rx (A (.I c a)) c=A (F.S a))/\(∀(d:F) a,(d::a)[0]? =A d)/\(∀(d:F) a (b:D),(d::a)[b+1]? =a[b]?):=⟨λ_=>B,λ_ _ _=>B,λc a=>by show An _ _ _=_;rw[AiG];rfl,λ_ _=>B,λ_ _ _=>B⟩
def QY:=And.intro QZ (And.intro (@nt) (And.intro (@nu) (And.intro RX QS)))
def BY(a b c:K):Ak:=Au (b<=a)&&Au (a<=c)
def Nr(c a d:K):A2 132 [.n c,.n a,.n d] (.b (BY c a d)):=BP B B B ⟨G.Az,by
 rw[vS];by_cases b:a<=c;.simp only[↓Q,↓QC,↓QP,↓Afo (Be b),BY]
 .simp only[↓Q,↓QC,↓QP,↓Afm (Ba b),BY,Ba b,AjA]⟩
def I7(b:B0):C Ab->D->K
 |[],_=> -1
 |c::d,a=>if c.Bk=b then a else I7 b d (a+1)
def CO(a:C Ab)(b:B0):K:=I7 b a 0
def Da{b:C _}{c:Ab}(d:b[a]? =A c):AZ 5 [Z Ab.c b,.n a]=A (.pi c.c):=Fi d B
def Aao(b:C Ab)(e:B0)(o:b.l<1000000000)(g:G):∀c a,b.l-a=c->a<=b.l->jj W9 84 2 [Z Ab.c b,.s e,.n a] g=A (.n (I7 e (b.d a) a),g):=by
 intro c
 induction c with
 |zero=>
  intro a h j;have d:¬(a:K)<b.l:=by omega
  rw[Us.2.2.1];simp only[↓Q,↓QC,d,↓reduceIte];rw[Us.2.1,Aiq (by omega)];rfl
 |succ c p=>
  intro a h j;have d:(a:K)<b.l:=by omega
  let⟨n,k,m⟩:=Eh (b:=b) (a:=a) (by omega)
  rw[Us.2.2.1];simp only[↓Q,↓QC,d,↓reduceIte];rw[Us.2.2.2.1];simp only[↓Q,↓QC,↓QD,↓H (Da k)];rw[m];by_cases f:n.Bk=e;.simp only[f,I7,AiJ]
  .simp only[f,I7,AiC];rw[Us.2.2.2.2];simp only[↓Q,↓H (BF (a:=a) (by omega))];grind
def TY(a:C Ab)(b:B0)(c:a.l<1000000000):A2 84 [Z Ab.c a,.s b] (.n (CO a b)):=BP B B B ⟨G.Az,by rw[Us.1];exact Aao a b c G.Az a.l 0 (by omega) (by omega)⟩
def Oe(a:D):Ak:= !(Au ((a:K)<97)||decide ((122:K)<a))
def UI(a:D):Ak:= !(Au ((a:K)<48)||decide ((57:K)<a))||decide ((a:K)=46)
def Kn(a:D):Ak:=Oe a||UI a
def N4:B0->Ak
 |[]=>Ac
 |a::b=>Oe a&&Au (((a::b).l:K)<=24)&&(a::b).all Kn
theorem jp(a:D)(b:B0):N4 (a::b)=(Oe a&&Au (((a::b).l:K)<=24)&&(a::b).all Kn):=rfl
def jS(a b:K):Au (a<=b)= !Au (b<a):=by grind
def oM{d:B0}{c:D}(p:d[c]? =A a)(b:G):jj W9 171 4 [.n (c:K),.s d] b=if Kn a=L then jj W9 171 3 [.n (c:K),.s d] b else A (.b Ac,b):=by have q:=Yi (d:=.n) p;have l:=E1 .u8 (a:K) 97;have m:=E6 .u8 (a:K) 122;have n:=E1 .u8 (a:K) 48;have o:=E6 .u8 (a:K) 57;have e:=FW .u8 (a:K) 46;unfold Kn Oe UI;rw[Sj.2.2.2.2.1];generalize Au ((a:K)<97)=f at l⊢;generalize Au ((122:K)<a)=g at m⊢;generalize Au ((a:K)<48)=h at n⊢;generalize Au ((57:K)<a)=i at o⊢;generalize Au ((a:K)=46)=j at e⊢;cases f<;>cases g<;>cases h<;>cases i<;>cases j<;>simp only[AiB,Ai2]at e<;>simp only[Q,ZR, *]<;>simp only[QB,↓reduceIte]
def Aad(b:B0)(m:b.l<1000000000)(e:G):∀c a,b.l-a=c->a<=b.l->jj W9 171 2 [.s b,.n a] e=A (.b ((b.d a).all Kn),e):=by
 intro c
 induction c with
 |zero=>
  intro a f g;have d:¬(a:K)<b.l:=by omega
  rw[Sj.2.2.2.1];simp only[↓Q,↓QC,d,↓reduceIte];rw[Sj.2.2.1,Aiq (by omega)];rfl
 |succ c n=>
  intro a f g;have d:(a:K)<b.l:=by omega
  let⟨k,h,j⟩:=Eh (b:=b) (a:=a) (by omega)
  rw[Sj.2.2.2.1];simp only[↓Q,↓QC,d,↓reduceIte];rw[oM h,j,AiK];cases Kn k
  .rfl
  .rw[Af B,Ai5,Sj.2.2.2.2.2];simp only[↓Q,↓H (BF (a:=a) (by omega))];grind
def s0(c:B0)(m:c.l<1000000000):A2 171 [.s c] (.b (N4 c)):=BP B B B ⟨G.Az,by
 rw[Sj.1]
 cases c with
 |nil=>simp only[↓Q,↓QC]<;>rfl
 |cons a b=>
  have q:=Aad (a::b) m G.Az (a::b).l 0 (by omega) (by omega);have o:HN [.s (a::b),.n 0]=A (.i .u8 a):=Yi (d:=.n) (b:=0) B;have n:¬((a::b).l:K)<1:=by grind
  have p:A7 .lss [.n ((a::b).l:K),.n 1]=A (.b Ac):=by rw[E1,Ba n]
  have g:=E6 .n ((a::b).l:K) 24;have h:=E1 .u8 (a:K) 97;have j:=E6 .u8 (a:K) 122;have l:Au (((a::b).l:K)<=24)= !Au ((24:K)<(a::b).l):=by grind
  rw[jp,l];unfold Oe;generalize Au ((24:K)<(a::b).l)=d at g⊢;generalize Au ((a:K)<97)=e at h⊢;generalize Au ((122:K)<a)=f at j⊢;have r:jj W9 171 5 [.s (a::b)] G.Az=A (.b ((a::b).all Kn),G.Az):=by rw[Sj.2.1];grind
  cases d<;>cases e<;>cases f<;>simp only[QY, *]<;>simp only[QB,↓reduceIte]⟩
def FN{b:C F}{e d:F}{c h:G}(k:LO a)(i:KJ (Ar a)=Ac)(f:xx W9 a b G.Az=A (e,c))(j:Dq c e=A (d,h)):A2 a b d:=
 λm l n g=>f3 k i g f j
def UH:C B0:=[[97,100,100],[115,117,98],[109,117,108],[100,105,118],[109,111,100],[110,101,103],[108,116],[108,101],[101,113],[110,111,116]]
def Xl(a:B0):C F:=[.s a]
def tu:A2 230 [] (Z Xl UH):=FN (c:=G.Az.V _) (h:=(G.Az.V _).set _ _) (e:=.Z _ 0 _ _ 1) B B (by rw[wt];rfl) B
def DZ(a:B0):K:=if a∈UH then(if a=[110,101,103]\/a=[110,111,116]then 1 else 2)else 0
def dO(b:C B0)(a:B0):K:=if a∈b then(if a=[110,101,103]\/a=[110,111,116]then 1 else 2)else 0
def aj{b:C _}{c:B0}(d:b[a]? =A c):AZ 1 [Z Xl b,.n a]=A (.pi (Xl c)):=Fi d B
def Aaf(d:B0)(b:C B0)(v:b.l<1000000000)(c:G):∀m a,b.l-a=m->a<=b.l->jj W9 180 2 [Z Xl b,.s d,.n a] c=A (.n (dO (b.d a) d),c):=by
 intro m
 induction m with
 |zero=>
  intro a r s;have n:¬(a:K)<b.l:=by omega
  rw[Sk.2.2.1];simp only[↓Q,↓QC,n,↓reduceIte];rw[Sk.2.1,Aiq (by omega)];rfl
 |succ m u=>
  intro a r s;have n:(a:K)<b.l:=by omega
  let⟨e,k,t⟩:=Eh (b:=b) (a:=a) (by omega)
  rw[Sk.2.2.1];simp only[↓Q,↓QC,n,↓reduceIte];rw[Sk.2.2.2.1];have h:∀c,AW c [.pi (Xl e)]=A (.s e):=λ_=>B;have f:=Qn e d;have g:=Qn d [110,101,103];have j:=Qn d [110,111,116];rw[t];unfold dO;by_cases q:e=d
  .subst q;rw[Af (Ai0 ..)];rw[Be B]at f;by_cases o:e=[110,101,103];.rw[Be o]at g;simp only[QY,aj k,h c,f,g];rw[Af (Or.inl o)]
   .rw[Ba o]at g;by_cases p:e=[110,111,116];.rw[Be p]at j;simp only[QY,aj k,h c,f,g,j];rw[Af (Or.inr p)]
    .rw[Ba p]at j;simp only[QY,aj k,h c,f,g,j];rw[Ad (by grind),Sk.2.2.2.2.2]
  .rw[Ba q]at f;simp only[QY,H (aj k),H (h c), *];rw[Sk.2.2.2.2.1];simp only[↓Q,↓H (BF (a:=a) (by omega))];rw[u (a+1) (by omega) (by omega)];unfold dO;have:(d∈e::b.d (a+1))↔d∈b.d (a+1):=by grind
   simp only[this]
def ia(a:B0):A2 180 [.s a] (.n (DZ a)):=BP B B B ⟨G.Az,by rw[Sk.1];simp only[QY,tu.H B];exact Aaf a UH (by decide) G.Az 10 0 B (by grind)⟩
def Is(a:AD):Ak:=Au (a.op=4)||decide (a.op=8)||decide (a.op=9)
def HB(a:AD):Ak:=
 if(Is a != !Au (a.Bk=[]))=L then Ac
 else if a.op=1 then BY a.n (-1000000000) 1000000000
 else if a.op=2 then Au (a.n=0)||decide (a.n=1)
 else Au (a.n=0)
def s2(a:AD):A2 173 [.S (AD.c a)] (.b (HB a)):=BP B B B ⟨G.Az.V (.I 4 (AD.c a)),by
 rw[cX.1];have m:=Cz .u8 a.op 4;have n:=Cz .u8 a.op 8;have o:=Cz .u8 a.op 9;have h:=VF a.Bk [];have d:=Cz .u8 a.op 1;have f:=Cz .u8 a.op 2;have i:=Cz .n a.n 0;have j:=Cz .n a.n 1;have p:=Nr a.n (-1000000000) 1000000000;have q:jj W9 173 2 [.p G.Az.next 0] (G.Az.V (.I 4 (AD.c a)))=A (.b (if a.op=1 then BY a.n (-1000000000) 1000000000 else if a.op=2 then Au (a.n=0)||decide (a.n=1)else Au (a.n=0)),G.Az.V (.I 4 (AD.c a))):=by
  rw[cX.2.1];by_cases b:a.op=1;.rw[Be b]at d;simp only[QY,d,p.H B];rw[Af b]
  .rw[Ba b]at d;rw[Ad b];by_cases c:a.op=2;.rw[Be c]at f;rw[Af c];generalize Au (a.n=0)=e at i⊢;generalize Au (a.n=1)=g at j⊢;cases e<;>simp only[QY,d,f,i,j]<;>simp only[QB]
   .rw[Ba c]at f;rw[Ad c];simp only[QY, *];rw[cX.2.2];simp only[QY, *]
 unfold HB Is;generalize Au (a.op=4)=k at m⊢;generalize Au (a.op=8)=l at n⊢;generalize Au (a.op=9)=e at o⊢;generalize Au (a.Bk=[])=g at h⊢;cases k<;>cases l<;>cases e<;>cases g<;>simp only[AiB,Ai2]at h<;>simp only[QY, *]<;>simp only[QB,↓reduceIte]⟩
def bU(c:B0):∀f b,I7 c f b= -1\/∃d a,I7 c f b=(b+d:D)/\f[d]? =A a/\a.Bk=c
 |[],_=>.i B
 |a::i,b=>by
  unfold I7;by_cases e:a.Bk=c;.rw[Af e];exact .j ⟨0,a,by simp,B,e⟩
  .rw[Ad e];rcases bU c i (b+1)with j|⟨d,g,k,l,h⟩;.grind
   .exact .j ⟨d+1,g,by grind,by grind,h⟩
def RT(c:C _)(d:B0):CO c d= -1\/∃(b:D)(a:Ab),CO c d=b/\c[b]? =A a/\a.Bk=d:=by
 rcases bU d c 0 with e|⟨b,a,f,g,h⟩;.exact .i e
 .exact .j ⟨b,a,by rw[CO,f,Aix],g,h⟩
def Qo(c:C Ab)(b:K):K:=match c[b.n]?with|some a=>a.Bs.l|none=>0
def C_(b:C Ab)(a:AD):K:=
 if a.op=5 then 2
 else if a.op=8\/a.op=9 then(if 0<=CO b a.Bk then Qo b (CO b a.Bk)else 0)
 else if a.op=1\/a.op=2\/a.op=3\/a.op=4\/a.op=6\/a.op=7\/a.op=10\/a.op=12\/a.op=13\/a.op=14 then 1 else 0
def qj(a:C Ab)(b:AD)(h:a.l<1000000000)(e:G):jj W9 134 4 [.b L,.p e.next 0,Z Ab.c a,.i .u8 b.op] (e.V (.I 4 (AD.c b)))=A (.n (if 0<=CO a b.Bk then Qo a (CO a b.Bk)else 0),e.V (.I 4 (AD.c b))):=by
 rw[Se.2.2.1];have c:=TY a b.Bk h;rcases RT a _ with d|⟨i,j,d,f,_⟩;.rw[d]at c⊢;simp only[Q,QC,QD,c.H B];rw[Ad (by grind),Ad (by grind),Se.2.2.2.1]
 .rw[d]at c⊢;have g:0<=(i:K):=by omega
  simp only[Q,QC,QD,c.H B,H (Da f),reduceIte,g];unfold Qo;rw[Aif,f]
def qA(a:K)(x y:F)(f:G):jj W9 134 4 [.b Ac,x,y,.i .u8 a] f=A (.n (if a=1\/a=2\/a=3\/a=4\/a=6\/a=7\/a=10\/a=12\/a=13\/a=14 then 1 else 0),f):=by
 have g:∀f,jj W9 134 3 [.b L] f=A (.n 1,f):=λf=>by rw[Se.2.2.2.2];simp only[Q]
 rw[Se.2.2.1];have b:=Cz .u8 a 1;have c:=Cz .u8 a 2;have d:=Cz .u8 a 3;have e:=Cz .u8 a 4;have h:=Cz .u8 a 6;have i:=Cz .u8 a 7;have j:=Cz .u8 a 10;have k:=Cz .u8 a 12;have l:=Cz .u8 a 13;have m:=Cz .u8 a 14;by_cases n:a=1;.rw[Be n]at b;simp only[Q,H b,g];rw[Af (by grind)]
 rw[Ba n]at b;by_cases s:a=2;.rw[Be s]at c;simp only[Q,H b,H c,g];rw[Af (by grind)]
 rw[Ba s]at c;by_cases t:a=3;.rw[Be t]at d;simp only[Q,H b,H c,H d,g];rw[Af (by grind)]
 rw[Ba t]at d;by_cases u:a=4;.rw[Be u]at e;simp only[Q,H b,H c,H d,H e,g];rw[Af (by grind)]
 rw[Ba u]at e;by_cases v:a=6;.rw[Be v]at h;simp only[Q,H b,H c,H d,H e,H h,g];rw[Af (by grind)]
 rw[Ba v]at h;by_cases w:a=7;.rw[Be w]at i;simp only[Q,H b,H c,H d,H e,H h,H i,g];rw[Af (by grind)]
 rw[Ba w]at i;by_cases o:a=10;.rw[Be o]at j;simp only[Q,H b,H c,H d,H e,H h,H i,H j,g];rw[Af (by grind)]
 rw[Ba o]at j;by_cases p:a=12;.rw[Be p]at k;simp only[Q,H b,H c,H d,H e,H h,H i,H j,H k,g];rw[Af (by grind)]
 rw[Ba p]at k;by_cases q:a=13;.rw[Be q]at l;simp only[Q,H b,H c,H d,H e,H h,H i,H j,H k,H l,g];rw[Af (by grind)]
 rw[Ba q]at l;by_cases r:a=14;.rw[Be r]at m;simp only[Q,H b,H c,H d,H e,H h,H i,H j,H k,H l,H m,g];rw[Af (by grind)]
 rw[Ba r]at m;simp only[Q,H b,H c,H d,H e,H h,H i,H j,H k,H l,H m,(λf=>by rw[Se.2.2.2.2];simp only[Q,Se.2.1]:∀f,jj W9 134 3 [.b Ac] f=A (.n 0,f))];rw[Ad (by grind)]
def iJ(f:C Ab)(a:AD)(i:f.l<1000000000):A2 134 [Z Ab.c f,.S (AD.c a)] (.n (C_ f a)):=BP B B B ⟨G.Az.V (.I 4 (AD.c a)),by
 rw[Se.1];have j:=qj f a i G.Az;have b:=Cz .u8 a.op 5;have c:=Cz .u8 a.op 8;have e:=Cz .u8 a.op 9;unfold C_;by_cases d:a.op=5;.rw[Be d]at b;rw[Af d];simp only[Q,QD,H b]
 rw[Ba d]at b;rw[Ad d];by_cases g:a.op=8;.rw[Be g]at c;rw[Af (Or.inl g)];simp only[Q,QD,H b,H c];grind
 rw[Ba g]at c;by_cases h:a.op=9;.rw[Be h]at e;rw[Af (Or.inr h)];simp only[Q,QD,H b,H c,H e];grind
 rw[Ba h]at e;rw[Ad (by grind)];simp only[Q,QD,H b,H c,H e];exact qA a.op _ _ _⟩
def AD.CA(a:AD):Prop:=a.AT.l<1000000/\a.Bk.l<1000000
def Ab.CA(a:Ab):Prop:=a.Ay.l<1000000/\a.A6.l<1000000/\a.Bs.l<1000000/\a.Bk.l<1000000/\(-9223372036854775808<=a.Ap/\a.Ap<=9223372036854775807)/\∀b∈a.Ay,b.CA
def CA(a:C Ab):Prop:=a.l<1000000/\∀b∈a,b.CA
def KL(a:C Ab)(b:AD):K:=match a[(CO a b.Bk).n]?with
 |some c=>if 0<=CO a b.Bk/\(Au (0<c.A6.l)=Au (b.op=9))then c.Ap else-1
 |none=> -1
def FA(b:C Ab)(a:AD):K:=
 if a.op=1\/a.op=2\/a.op=3\/a.op=10\/a.op=13\/a.op=14 then 1
 else if a.op=5\/a.op=6\/a.op=7\/a.op=12 then 2
 else if a.op=11 then 3
 else if a.op=4 then(if 0<DZ a.Bk then DZ a.Bk else-1)
 else if a.op=8\/a.op=9 then KL b a
 else-1
def qg(c:C Ab)(a:AD)(q:c.l<1000000000)(g:G):jj W9 172 2 [.b L,.p g.next 0,Z Ab.c c] (g.V (.I 4 (AD.c a)))=A (.n (KL c a),g.V (.I 4 (AD.c a))):=by
 rw[ND.2.2.2.2];have d:=TY c a.Bk q;unfold KL;rcases RT c a.Bk with e|⟨h,b,e,j,_⟩
 .rw[e]at d⊢;have m:Au (0<=-1)=Ac:=by grind
  simp only[Q,QC,QD,d.H B,m];rw[ND.2.1];split;.grind
  .rfl
 .rw[e]at d⊢;have n:0<=(h:K):=by omega
  have o:A7 .geq [.n h,.n 0]=A (.b L):=by rw[K7,Be n]
  have i:=Cz .u8 a.op 9;have f:=E6 .n b.A6.l 0;have p:Au ((0:K)<b.A6.l)=Au (0<b.A6.l):=by grind
  rw[p]at f;rw[Aif,j];show _=A (F.n (if 0<=(h:K)/\(Au (0<b.A6.l)=Au (a.op=9))then b.Ap else-1),_);generalize Au (a.op=9)=k at i⊢;generalize Au (0<b.A6.l)=l at f⊢;cases k<;>cases l<;>simp only[Q,QD,d.H B,H o,H (Da j),H i,H f,ND.2.1]<;>simp[]
def s1(w:C Ab)(a:AD)(Y:w.l<1000000000):A2 172 [Z Ab.c w,.S (AD.c a)] (.n (FA w a)):=BP B B B ⟨G.Az.V (.I 4 (AD.c a)),by
 have X:=qg w a Y G.Az;have W:=ia a.Bk;have k:∀o p F b,jj W9 172 4 [.b L,o,p,F] b=A (.n 1,b):=λ_ _ _ b=>by rw[ND.2.2.1];simp only[Q]
 have y:∀o p F b,jj W9 172 3 [.b L,o,p,F] b=A (.n 2,b):=λ_ _ _ b=>by rw[ND.2.2.2.1];simp only[Q]
 have xa:∀o p b,jj W9 172 2 [.b Ac,o,p] b=A (.n (-1),b):=λ_ _ b=>by rw[ND.2.2.2.2];simp only[Q,ND.2.1]
 have c:=Cz .u8 a.op 1;have e:=Cz .u8 a.op 2;have f:=Cz .u8 a.op 3;have g:=Cz .u8 a.op 4;have h:=Cz .u8 a.op 5;have j:=Cz .u8 a.op 6;have m:=Cz .u8 a.op 7;have n:=Cz .u8 a.op 8;have v:=Cz .u8 a.op 9;have i:=Cz .u8 a.op 10;have d:=Cz .u8 a.op 11;have t:=Cz .u8 a.op 12;have l:=Cz .u8 a.op 13;have u:=Cz .u8 a.op 14;unfold FA;rw[ND.1];by_cases I:a.op=1;.rw[Be I]at c;rw[Af (by grind)];simp only[Q,QD,H c,k]
 rw[Ba I]at c;by_cases R:a.op=2;.rw[Be R]at e;rw[Af (by grind)];simp only[Q,QD,H c,H e,k]
 rw[Ba R]at e;by_cases S:a.op=3;.rw[Be S]at f;rw[Af (by grind)];simp only[Q,QD,H c,H e,H f,k]
 rw[Ba S]at f;by_cases J:a.op=10;.rw[Be J]at i;rw[Af (by grind)];simp only[Q,QD,H c,H e,H f,H i,k]
 rw[Ba J]at i;by_cases N:a.op=13;.rw[Be N]at l;rw[Af (by grind)];simp only[Q,QD,H c,H e,H f,H i,H l,k]
 rw[Ba N]at l;by_cases P:a.op=14;.rw[Be P]at u;rw[Af (by grind)];simp only[Q,QD,H c,H e,H f,H i,H l,H u,k]
 rw[Ba P]at u;rw[Ad (by grind)];simp only[Q,QD,H c,H e,H f,H i,H l,H u];rw[ND.2.2.1];by_cases T:a.op=5;.rw[Be T]at h;rw[Af (by grind)];simp only[Q,H h,y]
 rw[Ba T]at h;by_cases U:a.op=6;.rw[Be U]at j;rw[Af (by grind)];simp only[Q,H h,H j,y]
 rw[Ba U]at j;by_cases V:a.op=7;.rw[Be V]at m;rw[Af (by grind)];simp only[Q,H h,H j,H m,y]
 rw[Ba V]at m;by_cases M:a.op=12;.rw[Be M]at t;rw[Af (by grind)];simp only[Q,H h,H j,H m,H t,y]
 rw[Ba M]at t;rw[Ad (by grind)];simp only[H h,H j,H m,H t];rw[ND.2.2.2.1];by_cases q:a.op=11;.rw[Be q]at d;rw[Af q];simp only[Q,H d]
 rw[Ba q]at d;rw[Ad q];by_cases r:a.op=4
 .rw[Be r]at g;rw[Af r];have s:=E6 .n (DZ a.Bk) 0;by_cases x:0<DZ a.Bk;.rw[Be x]at s;rw[Af x];simp only[Q,QD,H d,H g,W.H B,H s]
  .rw[Ba x]at s;rw[Ad x];simp only[Q,QD,H d,H g,W.H B,H s,ND.2.1]
 rw[Ba r]at g;rw[Ad r];by_cases z:a.op=8;.rw[Be z]at n;rw[Af (Or.inl z)];simp only[Q,H d,H g,H n,X]
 rw[Ba z]at n;by_cases E:a.op=9;.rw[Be E]at v;rw[Af (Or.inr E)];simp only[Q,H d,H g,H n,H v,X]
 rw[Ba E]at v;rw[Ad (by grind)];simp only[Q,H d,H g,H n,H v,xa]⟩
def Ab6{a:C _}(e:CA a)(b:AD):0<=C_ a b/\C_ a b<1000000:=by
 unfold C_;split;.omega
 split
 .split
  .unfold Qo;split;.rename_i c d;have:=(e.2 c (Ail d)).2.2.1;omega
   .omega
  .omega
 split<;>omega
def LM(d:C Ab)(b:Ab)(a:AH)(c:D):Ak:=
 if a.Ao= -1 then BY a.Aw 0 (b.Ap-1)
 else BY a.Ao 0 ((c:K)-1)&&(match b.Ay[a.Ao.n]?with|some e=>BY a.Aw 0 (C_ d e-1)|none=>Ac)
def Gq{b:C _}{c:AD}(d:b[a]? =A c):AZ 4 [Z AD.c b,.n a]=A (.pi c.c):=Fi d B
def Kd{b:C _}{c:AH}(d:b[a]? =A c):AZ 2 [Z AH.c b,.n a]=A (.pi c.c):=Fi d B
def tt(f:C _)(d:Ab)(c:AH)(e:D)(p:CA f)(o:d.CA)(I:1<=d.Ap)(E:e<=d.Ay.l):A2 229 [Z Ab.c f,.S (Ab.c d),.S (AH.c c),.n e] (.b (LM f d c e)):=BP B B B ⟨(G.Az.V (.I 5 (Ab.c d))).V (.I 2 (AH.c c)),by
 have F:=o.1
 have J:=o.2.2.2.2.1.2
 have n:=Cz .n c.Ao (-1)
 have z:=Gu (a:=d.Ap) (b:=1) (by omega) (by omega)
 have t:=Nr c.Aw 0 (d.Ap-1)
 unfold LM
 rw[jJ.1]
 by_cases h:c.Ao= -1
 .rw[Be h]at n;rw[Af h];simp only[QY,t.H B, *]
 rw[Ba h]at n
 rw[Ad h]
 simp only[QY, *]
 rw[jJ.2]
 have r:=Gu (a:=e) (b:=1) (by omega) (by omega)
 have k:=Nr c.Ao 0 (e-1)
 cases j:BY c.Ao 0 (e-1)with
 |false=>rw[j]at k;simp only[QY,k.H B, *];rfl
 |true=>
  rw[j]at k;unfold BY at j;rw[Aie,Ain,Ain]at j;obtain⟨m,w⟩:∃m:D,c.Ao=m:=⟨c.Ao.n,by omega⟩;let⟨g,x,_⟩:=Eh (b:=d.Ay) (a:=m) (by omega)
  have q:AZ 4 [Z AD.c d.Ay,.n c.Ao]=A (.pi g.c):=by rw[w];exact Gq x
  have H:=Ab6 p g;have u:=iJ f g (by have:=p.1;omega);have s:=Gu (a:=C_ f g) (b:=1) (by omega) (by omega);have v:=Nr c.Aw 0 (C_ f g-1);have y:d.Ay[c.Ao.n]? =A g:=by grind
  rw[y];simp only[QY,r,k.H B,q,u.H B,VA,s,v.H B,Ai5]⟩
def Aae(d:C _)(b:Ab)(c:C AH)(e:D)(q:CA d)(o:b.CA)(t:1<=b.Ap)(s:e<=b.Ay.l)(v:c.l<1000000):∀g a,c.l-a=g->a<=c.l->jj W9 174 2 [Z Ab.c d,.p G.Az.next 0,Z AH.c c,.n e,.n a] (G.Az.V (.I 5 (Ab.c b)))=A (.b ((c.d a).all λn=>LM d b n e),G.Az.V (.I 5 (Ab.c b))):=by
 intro g
 induction g with
 |zero=>
  intro a p r;have h:¬(a:K)<c.l:=by omega
  rw[Ug.2.2.1];simp only[↓Q,↓QC,h,↓reduceIte];rw[Ug.2.1,Aiq (by omega)];rfl
 |succ g w=>
  intro a p r
  have h:(a:K)<c.l:=by omega
  let⟨m,k,u⟩:=Eh (b:=c) (a:=a) (by omega)
  rw[Ug.2.2.1]
  simp only[↓Q,↓QC,h,↓reduceIte]
  rw[Ug.2.2.2.1,u,AiK]
  have f:=tt d b m e q o t s
  cases j:LM d b m _ with
  |false=>rw[j]at f;simp only[QY,Kd k,f.H B,QB]
  |true=>rw[j]at f;simp only[QY,Kd k,f.H B,QB];rw[Ug.2.2.2.2];simp only[↓Q,↓H (BF (a:=a) (by omega))];grind
def GZ(e:C Ab)(a:Ab)(d:C AH)(b:D):Ak:=d.all λc=>LM e a c b
def cb(d:C _)(a:Ab)(b:C AH)(c:D)(g:CA d)(e:a.CA)(i:1<=a.Ap)(h:c<=a.Ay.l)(f:b.l<1000000):A2 174 [Z Ab.c d,.S (Ab.c a),Z AH.c b,.n c] (.b (GZ d a b c)):=BP B B B ⟨_,by have j:=Aae d a b c g e i h f b.l 0 (by omega) (by omega);rw[Ug.1];simp only[↓Q,↓QD];exact j⟩
def Py(b:C Ab)(c:Ab)(d:D)(a:AD):Ak:=Au (FA b a=a.AT.l)&&HB a&&GZ b c a.AT d
def Ol(c:C Ab)(a:Ab):C AD->D->Ak
 |[],_=>L
 |d::e,b=>Py c a b d&&Ol c a e (b+1)
def Lc(b:C Ab)(a:Ab):Ak:=
 N4 a.Bk&&Au (1<=a.Ap)&&(Au (a.A6.l=0)||decide ((a.A6.l:K)=a.Ap))&&
 (Ol b a a.Ay 0&&(GZ b a a.A6 a.Ay.l&&GZ b a a.Bs a.Ay.l))
def oV(c:C Ab)(b:Ab){e:D}{a:AD}(i:b.Ay[e]? =A a)(n:CA c)(m:b.CA)(s:1<=b.Ap)(d:G)(h:d.N .h=A (.I 5 (Ab.c b)))(r:Lv d .h):∃g,AR d g/\jj W9 131 4 [.n e,Z Ab.c c,.p .h 0] d=if Py c b e a=L then jj W9 131 3 [.n e,Z Ab.c c,.p .h 0] g else A (.b Ac,g):=by
 have u:=Ail i;have t:=m.2.2.2.2.2 a u;have E:=(Aid.1 i).1;have p:=s1 c a (by have:=n.1;omega);have k:=s2 a;have l:=cb c b a.AT e n m s (by omega) t.1;have o:=AJ h 2;have z:d.AU .h 0 5=A (Ab.c b):=by rw[EA h,Af (by omega),Af B]
 have q:=(Ke r (.I 4 (AD.c a))).t h;have j:(d.V (.I 4 (AD.c a))).AU .h 0 5=A (Ab.c b):=by rw[EA q,Af (by omega),Af B]
 have v:Bf 5 (d.V (.I 4 (AD.c a))) [.p .h 0]=A (.S (Ab.c b)):=by rw[Gk,j];rfl
 have f:=FW .n (FA c a) a.AT.l;refine⟨d.V (.I 4 (AD.c a)),AR.V _ _,?_⟩;unfold Py;rw[Sd.2.2.2.2.1];generalize Au (FA c a=a.AT.l)=w at f⊢;generalize HB a=x at k⊢;generalize GZ c b a.AT e=y at l⊢;cases w<;>cases x<;>cases y<;>simp only[AiB,Ai2]at f<;>simp only[↓Q,↓QD,↓H o,↓H (Gq i),↓p.H B,↓k.H B,↓l.H B,↓MP,↓VA,↓H f,↓H j,v,QS,QB,↓reduceIte]
def rj(b:C Ab)(a:Ab)(g:CA b)(c:a.CA)(h:1<=a.Ap)(d:G)(i:d.N .h=A (.I 5 (Ab.c a))):jj W9 131 1 [Z Ab.c b,.p .h 0] d=A (.b (GZ b a a.A6 a.Ay.l&&GZ b a a.Bs a.Ay.l),d):=by have k:=i;have e:=cb b a a.A6 a.Ay.l g c h (C6 _) c.2.1;have f:=cb b a a.Bs a.Ay.l g c h (C6 _) c.2.2.1;rw[Sd.2.2.1];generalize GZ b a a.A6 a.Ay.l=j at e⊢;generalize GZ b a a.Bs a.Ay.l=l at f⊢;cases j<;>simp only[QY,e.H B,f.H B,QB, *]
def Aau(d:C Ab)(a:Ab)(k:CA d)(g:a.CA)(n:1<=a.Ap):∀f b c,a.Ay.l-b=f->b<=a.Ay.l->c.N .h=A (.I 5 (Ab.c a))->Lv c .h->∃p,jj W9 131 2 [.n b,Z Ab.c d,.p .h 0] c=A (.b (Ol d a (a.Ay.d b) b&&(GZ d a a.A6 a.Ay.l&&GZ d a a.Bs a.Ay.l)),p):=by
 have y:=g.1
 intro f
 induction f with
 |zero=>
  intro b c q r e m;have h:=e;have j:¬(b:K)<a.Ay.l:=by omega
  refine⟨c,?_⟩;rw[Sd.2.2.2.1];simp only[QY, *];rw[rj d a k g n c e,Aiq (by omega)];rfl
 |succ f z=>
  intro b c q r e m
  have h:=e
  have j:(b:K)<a.Ay.l:=by omega
  let⟨u,s,t⟩:=Eh (b:=a.Ay) (a:=b) (by omega)
  let⟨x,w,o⟩:=oV d a s k g n c e m
  rw[Sd.2.2.2.1]
  simp only[QY,h,j,reduceIte]
  rw[o,t]
  unfold Ol
  cases v:Py d a b u with
  |false=>grind
  |true=>rw[Af B,Sd.2.2.2.2.2,Ai5];simp only[↓Q,↓H (BF (a:=b) (by omega))];grind
def ux(b:C Ab)(a:Ab)(n:CA b)(e:a.CA):A2 131 [Z Ab.c b,.S (Ab.c a)] (.b (Lc b a)):=BP B B B (by
 have s:=e.1;have c:=s0 a.Bk (by have:=e.2.2.2.1;omega);have m:(G.Az.V (.I 5 (Ab.c a))).N .h=A (.I 5 (Ab.c a)):=B;have d:=E1 .n a.Ap 1;have i:=E6 .n (a.A6.l:K) 0;have g:=FW .n (a.A6.l:K) a.Ap;have j:=jS 1 a.Ap;have k:Au (a.A6.l=0)= !Au ((0:K)<a.A6.l):=by grind
 unfold Lc;rw[Sd.1,j,k];by_cases o:1<=a.Ap
 .rw[Ba (show¬a.Ap<1 by omega)]at d⊢;let⟨l,h⟩:=Aau b a n e o a.Ay.l 0 (G.Az.V (.I 5 (Ab.c a))) (by omega) (by omega) m (GD _ _)
  rw[AiE]at h;have p:jj W9 131 5 [Z Ab.c b,.p G.Az.next 0] (G.Az.V (.I 5 (Ab.c a)))=A (.b (Ol b a a.Ay 0&&(GZ b a a.A6 a.Ay.l&&GZ b a a.Bs a.Ay.l)),l):=by rw[Sd.2.1];exact h
  generalize(Ol b a a.Ay 0&&(GZ b a a.A6 a.Ay.l&&GZ b a a.Bs a.Ay.l))=t at p⊢;generalize N4 a.Bk=f at c⊢;generalize Au ((0:K)<a.A6.l)=q at i⊢;generalize Au ((a.A6.l:K)=a.Ap)=r at g⊢;cases f<;>cases q<;>cases r<;>simp only[AiB,Ai2]at g<;>simp only[QY,c.H B,QB, *]<;>grind
 .rw[Be (show a.Ap<1 by omega)]at d⊢;generalize N4 a.Bk=f at c⊢;cases f<;>simp only[↓Q,↓QD,↓c.H B,↓H d,QB]<;>grind)
def Rk(a:Ab):Ak:=Au ((12:K)<a.Ap)||decide ((12:K)<a.A6.l)||decide ((12:K)<a.Bs.l)
def Ox:C Ab->K->Ak
 |[],_=>L
 |a::c,b=> !(Au ((400:K)<b+a.Ay.l)||Rk a)&&Ox c (b+a.Ay.l)
def L0(b:C Ab):C Ab->D->Ak
 |[],_=>L
 |c::d,a=>Au (CO b c.Bk=(a:K))&&L0 b d (a+1)
def G4:B0:=[109,97,105,110]
def Li(a:C Ab):Ak:=match a[(CO a G4).n]?with|some b=>Au (0<=CO a G4)&&Au (b.A6.l=0)|none=>Ac
def DR(a:C Ab):K:=
 if(60:K)<a.l then 5
 else if Ox a 0=Ac then 5
 else if(a.all λb=>Lc a b)=Ac then 4
 else if L0 a a 0=Ac then 6
 else if Li a=Ac then 9
 else 0
def rg(b:C Ab)(l:CA b)(f:G):jj W9 83 2 [Z Ab.c b] f=A (.n (if Li b=Ac then 9 else 0),f):=by
 have n:=l.1;have c:=TY b G4 (by omega);unfold Li;rw[JJ.2.2.2.2.2.2.2.2.2.2.1];rcases RT b G4 with e|⟨i,d,e,h,_⟩;.have a:=E1 .n (CO b G4) 0;rw[e]at c a⊢;rw[Be (by grind)]at a;unfold G4 at c;simp only[Q,c.H B,H a];rw[Af];split<;>rfl
 .have a:=E1 .n (CO b G4) 0;have j:0<=(i:K):=by omega
  rw[e]at c a⊢;rw[Ba (by omega)]at a;have g:=E6 .n d.A6.l 0;have k:Au (d.A6.l=0)= !Au ((0:K)<d.A6.l):=by grind
  rw[Aif,h];show _=A (F.n (if(Au (0<=(i:K))&&Au (d.A6.l=0))=Ac then 9 else 0),f);rw[k,Be j];generalize Au ((0:K)<d.A6.l)=m at g⊢;unfold G4 at c;cases m<;>simp only[Q,QD,c.H B,H a,H (Da h),H g,JJ.2.2.2.2.2.2.2.2.2.2.2.2.2.2,QB,reduceIte]
def AbM(a:C Ab)(h:CA a)(g:G):∀c b,a.l-b=c->b<=a.l->jj W9 83 3 [.n b,Z Ab.c a] g=A (.n (if L0 a (a.d b) b=Ac then 6 else if Li a=Ac then 9 else 0),g):=by
 have p:=h.1
 intro c
 induction c with
 |zero=>
  intro b j k;have d:¬(b:K)<a.l:=by omega
  rw[JJ.2.2.2.2.2.2.2.2.2.2.2.1];simp only[Q,QC,d];rw[rg a h,Aiq (by omega)];rfl
 |succ c q=>
  intro b j k;have d:(b:K)<a.l:=by omega
  let⟨f,m,n⟩:=Eh (b:=a) (a:=b) (by omega)
  have e:=FW .n (CO a f.Bk) b;rw[JJ.2.2.2.2.2.2.2.2.2.2.2.1];simp only[Q,QC,d];rw[JJ.2.2.2.2.2.2.2.2.2.2.2.2.1,n];unfold L0;generalize Au (CO a f.Bk=b)=o at e⊢;cases o<;>simp only[AiB,Ai2]at e<;>simp only[Q,QD,H (Da m),(TY a f.Bk (by omega)).H B,H e,QB,reduceIte]
  rw[JJ.2.2.2.2.2.2.2.2.2.2.2.2.2.1];simp only[Q,H (BF (a:=b) (by omega))];grind
def sw(a:C Ab)(c:CA a)(f:G):∀d b,a.l-b=d->b<=a.l->jj W9 83 7 [.n b,Z Ab.c a] f=A (.n (if((a.d b).all λk=>Lc a k)=Ac then 4 else if L0 a a 0=Ac then 6 else if Li a=Ac then 9 else 0),f):=by
 have r:=c.1
 intro d
 induction d with
 |zero=>
  intro b m n;have e:¬b<a.l:=by omega
  rw[JJ.2.2.2.2.2.2.2.1];simp only[Q,QC,e,reduceIte];have p:=AbM a c f a.l 0 (by omega) (by omega);rw[AiE]at p;rw[JJ.2.2.2.2.2.2.1,Aiq (by omega)];grind
 |succ d s=>
  intro b m n;have e:(b:K)<a.l:=by omega
  let⟨g,j,o⟩:=Eh (b:=a) (a:=b) (by omega)
  have h:=ux a g c (c.2 g (Ail j));rw[JJ.2.2.2.2.2.2.2.1];simp only[Q,QC,e];rw[JJ.2.2.2.2.2.2.2.2.1,o,AiK];generalize Lc a g=q at h⊢;cases q<;>simp only[Q,QD,H (Da j),h.H B,QB,reduceIte]
  rw[JJ.2.2.2.2.2.2.2.2.2.1];simp only[Q,H (BF (a:=b) (by omega))];grind
def AdI(c:C Ab)(m:CA c)(k:G):∀h d f,c.l-d=h->d<=c.l->0<=f->f<=1000000->jj W9 83 11 [.n f,.n d,Z Ab.c c] k=A (.n (if Ox (c.d d) f=Ac then 5 else if(c.all λu=>Lc c u)=Ac then 4 else if L0 c c 0=Ac then 6 else if Li c=Ac then 9 else 0),k):=by
 have J:=m.1
 intro h
 induction h with
 |zero=>
  intro d f v w y z;have j:¬(d:K)<c.l:=by omega
  rw[JJ.2.2.2.1];simp only[Q,QC,j,reduceIte];have t:=sw c m k c.l 0 (by omega) (by omega);rw[AiE]at t;rw[JJ.2.2.1,Aiq (by omega)];exact t
 |succ h N=>
  intro d f v w y z;have j:(d:K)<c.l:=by omega
  let⟨e,n,x⟩:=Eh (b:=c) (a:=d) (by omega)
  have M:=(m.2 e (Ail n)).1;have s:=GJ (a:=f) (b:=e.Ay.l) (by omega) (by omega);have g:=E6 .n (f+e.Ay.l) 400;have p:=E6 .n e.Ap 12;have q:=E6 .n e.A6.l 12;have r:=E6 .n e.Bs.l 12;rw[JJ.2.2.2.1];simp only[Q,QC,j];rw[JJ.2.2.2.2.1,x];unfold Ox Rk;by_cases o:400<f+e.Ay.l;.rw[Be o]at g⊢;simp only[Q,QD,H (Da n),H s,H g,QB,reduceIte]
  rw[Ba o]at g⊢;generalize Au (12<e.Ap)=E at p⊢;generalize Au ((12:K)<e.A6.l)=F at q⊢;generalize Au ((12:K)<e.Bs.l)=I at r⊢;cases E<;>cases F<;>cases I<;>simp only[Q,QD,H (Da n),H s,H g,H p,H q,H r,QB,reduceIte]
  rw[JJ.2.2.2.2.2.1];simp only[Q,H (BF (a:=d) (by omega))];grind
def iw(a:C _)(d:CA a):A2 83 [Z Ab.c a] (.n (DR a)):=BP B B B ⟨G.Az,by
 have e:=AdI a d G.Az a.l 0 0 (by omega) (by omega) (by omega) (by omega);rw[AiE]at e;have c:=E6 .n a.l 60;unfold DR;rw[JJ.1];by_cases b:(60:K)<a.l;.rw[Be b]at c;rw[Af b];simp only[Q,H c]
 .rw[Ba b]at c;rw[Ad b];simp only[Q,H c];rw[JJ.2.1];grind⟩
def Eu:C (B0×F)->B0->Aj F
 |[],_=>O
 |(b,d)::c,a=>if b=a then A d else Eu c a
def Hq(c:C BL)(d:C (B0×F)):Prop:=c.m (λa=>(a.HS,a.Dv))=d.m λb=>(F.s b.1,b.2)
def ry(a b:B0):J8 Ac [2] (.s a) (.s b)=A (EB a b):=by show KD (A (EB a b)) (A L)=_;cases EB a b<;>rfl
def bW:∀{e:C BL}{f:C (B0×F)},Hq e f->∀(a:B0)(c:D),(Eu f a=O->G3 Ac [2] (.s a) e c=A O)/\∀g,Eu f a=A g->∃n b,G3 Ac [2] (.s a) e c=A (A (n,b))/\b.Dv=g
 |[],[],_,a,c=>⟨λ_=>rfl,λg d=>by cases d⟩
 |[],_::_,d,_,_=>by cases d
 |_::_,[],d,_,_=>by cases d
 |b::e,(h,g)::f,d,a,c=>by
  have j:b.HS=.s h/\b.Dv=g:=by have:=(Aj5 d).1;exact⟨Aij Prod.fst this,Aij Prod.snd this⟩
  have l:Hq e f:=(Aj5 d).2;have o:=bW l a (c+1);have p:G3 Ac [2] (.s a) (b::e) c=An (EB a h) (A (A (c,b))) (G3 Ac [2] (.s a) e (c+1)):=by show@Option.casesOn Ak (λ_=>Aj (Aj (D×BL))) (J8 Ac [2] (.s a) b.HS) O (λk=>An k (A (A (c,b))) (G3 Ac [2] (.s a) e (c+1)))=_;rw[j.1,ry]
  rw[p,NS];unfold Eu;by_cases i:h=a;.subst i;rw[Af B,Aj6];exact⟨λd=>(by cases d),λq m=>⟨c,b,B,by rw[j.2];exact AiI m⟩⟩
  .rw[Ad i];have:(a==h)=Ac:=by simpa usingλb=>i b.s
   rw[this];exact o
def Yj{d:Ak}{e i:F}{g:G}{c:C BL}{b:C (B0×F)}(l:Ql g i=A c)(m:Hq c b)(a:B0):E7 Ac [2] e d g [i,.s a]=A (An d (.AC [(Eu b a).g e,.b (Eu b a).isSome]) ((Eu b a).g e)):=by
 have f:=bW m a 0
 have n:Mh Ac [2] (.s a) c=G3 Ac [2] (.s a) c 0:=B
 unfold E7
 simp only[l,n]
 cases h:Eu b a with
 |none=>rw[f.1 h];cases d<;>rfl
 |some o=>obtain⟨q,p,j,k⟩:=f.2 o h;rw[j];simp only[k];cases d<;>rfl
def gQ{d:G}{e:Aa}{b:C BL}{c:D}{f:C (B0×F)}(i:d.N e=A (.Bu b c))(j:Hq b f){a:B0}(k:Eu f a=O)(g:F):Hx Ac [2] d [.m e,.s a,g]=A (Ax,d.set e (.Bu (b++[⟨.s a,g,c⟩]) (c+1))):=by have h:=bW j a 0;have l:Mh Ac [2] (.s a) b=G3 Ac [2] (.s a) b 0:=B;unfold Hx;simp only[i,dh,l,h.1 k]
def Hq.Xe{a:C BL}{d:C (B0×F)}(b:Hq a d)(c:B0)(e:F)(f:D):Hq (a++[⟨.s c,e,f⟩]) (d++[(c,e)]):=by unfold Hq at b⊢;rw[AiZ,AiZ,b];rfl
def g0:∀(a:C (B0×F)),Hq (RK (a.m λb=>.s b.1) (a.m (·.2))) a
 |[]=>rfl
 |(d,e)::c=>by unfold Hq RK;simp only[Ai9];exact Aij _ (g0 c)
