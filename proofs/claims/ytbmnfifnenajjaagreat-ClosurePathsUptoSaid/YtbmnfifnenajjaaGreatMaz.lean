/- Part of the proof. -/
import Derived.Test.YtbmnfifnenajjaaGreatMah
import Derived.Test.YtbmnfifnenajjaaGreatMaj
import Derived.Test.YtbmnfifnenajjaaGreatMak
import Derived.Test.YtbmnfifnenajjaaGreatMal
import Derived.Test.YtbmnfifnenajjaaGreatMam
import Derived.Test.YtbmnfifnenajjaaGreatMan
import Derived.Test.YtbmnfifnenajjaaGreatMao
import Derived.Test.YtbmnfifnenajjaaGreatMap
import Derived.Test.YtbmnfifnenajjaaGreatMaq
import Derived.Test.YtbmnfifnenajjaaGreatMar
import Derived.Test.YtbmnfifnenajjaaGreatMas
import Derived.Test.YtbmnfifnenajjaaGreatMat
import Derived.Test.YtbmnfifnenajjaaGreatMau
import Derived.Test.YtbmnfifnenajjaaGreatMav
import Derived.Test.YtbmnfifnenajjaaGreatMaw
import Derived.Test.YtbmnfifnenajjaaGreatMax
import Derived.Test.YtbmnfifnenajjaaGreatMay
set_option linter.all false
noncomputable section
open Option renaming some->A,none->O,bind->Option.b
open _root_ renaming rfl->B,List->C,Nat->D,Int->K,if_neg->Ad,if_pos->Af,Option->Ae,Bool->Ah,cond->Aj,decide_eq_true->A0,decide_eq_false->A2
open Bool renaming true->L,false->Aa
open Decidable renaming decide->Ao
open Nat renaming beq->AW,le_refl->CK
open List renaming length->List.l,map->List.m,take->List.t,drop->List.d,flatMap->List.f
open Go.IntKind renaming i64->Go.IntKind.n
open Array renaming toList->Array.l
open Eq renaming trans->Eq.t,symm->Eq.s
open Or renaming inl->Or.i,inr->Or.j
open Int renaming toNat->Int.n
namespace Go.Proofs.YtbmnfifnenajjaaGreat
open Go.Fg
abbrev BN:=C D
def B6(a:K):F:=.i .n a
def Z{a:Type}(b:a->C F)(c:C a):F:=.CV (c.m b)
structure AF where
 Ax:K
 AD:K
 deriving DecidableEq
def AF.c(a:AF):C F:=[.i .n a.Ax,.i .n a.AD]
structure Au where
 op:K
 A8:BN
 n:K
 A3:C AF
 deriving DecidableEq
def Au.c(a:Au):C F:=[.i .u8 a.op,.s a.A8,.i .n a.n,Z AF.c a.A3]
structure Ab where
 A8:BN
 An:K
 Av:C Au
 A_:C AF
 Bk:C AF
 deriving DecidableEq
def Ab.c(a:Ab):C F:=[.s a.A8,.i .n a.An,Z Au.c a.Av,Z AF.c a.A_,Z AF.c a.Bk]
structure N where
 Ak:K
 n:K
 deriving DecidableEq
def N.c(a:N):C F:=[.i .u8 a.Ak,.i .n a.n]
@[simp] theorem AF.NY(a:AF):a.c.l=2:=rfl
@[simp] theorem Au.NY (a:Au):a.c.l=4:=rfl
@[simp] theorem Ab.NY (a:Ab):a.c.l=5:=rfl
@[simp] theorem N.NY (a:N):a.c.l=2:=rfl
@[simp] theorem DF {b:Type} (c:b->C F) (a:C b):DX [Z c a]=A (.i .n a.l):=by unfold Z;simp
theorem EZ {c:Type} {a:c->C F} {f:D} {e:C c} {d:D} {b:c} {i:IntKind} (g:e[d]? =A b) (h:(a b).l=f):AR f [Z a e,.i i (d:K)]=A (.pi (a b)):=by unfold Z;exact ZG (by rw[Aeo,g];rfl) h
@[simp] theorem Ac3{a:Type}(b:a->C F)(c:C a):Im (Z b c)=L:=rfl
@[simp] theorem AcU {d:Type} (b:G) (a:d->C F) (c:C d):Dp b (Z a c)=A (Z a c,b):=rfl
@[simp] theorem Ab1 {c:Type} (a:c->C F) (b:C c):F.I (Z a b)=[Z a b]:=rfl
@[simp] theorem Abz {a:Type} (b:a->C F) (c:C a):Fl (Z b c)=L:=rfl
@[simp] theorem Oh (h:Ah) (a:IntKind) (f:K) (b:C D) (c:C F) (g:C (C F)) (d e:C F):Im (.b h)=L/\Im (.i a f)=L/\Im (.s b)=L/\Im .pn=L/\Im (.pi c)=L/\Im (.CV g)=L/\Im (.mi d e)=L:=⟨B,B,B,B,B,B,B⟩
structure Bf where
 Ax:K
 Az:K
 deriving DecidableEq
def Bf.c(a:Bf):C F:=[.i .n a.Ax,.i .n a.Az]
structure Bt where
 B4:C Bf
 Ax:K
 deriving DecidableEq
def Bt.c(a:Bt):C F:=[Z Bf.c a.B4,.i .n a.Ax]
def Fh(a:C N):C F:=[Z N.c a]
structure C1 where
 CQ:C N
 I:C (C N)
 AA:K
 Kq:K
 KL:K
 OJ:K
 Dv:C Bt
 deriving DecidableEq
def C1.c(a:C1):C F:=[Z N.c a.CQ,Z Fh a.I,.i .n a.AA,.i .n a.Kq,.i .n a.KL,.i .n a.OJ,Z Bt.c a.Dv]
@[simp] theorem Bf.NY(a:Bf):a.c.l=2:=rfl
@[simp] theorem Bt.NY (a:Bt):a.c.l=2:=rfl
@[simp] theorem AbN (a:C N):(Fh a).l=1:=rfl
@[simp] theorem C1.NY (a:C1):a.c.l=7:=rfl
def MH(a:K):Prop:=IntKind.i64.min<=a/\a<=IntKind.i64.max
def rQ(a:K):Prop:=IntKind.u8.min<=a/\a<=IntKind.u8.max
def Vs{b:Type}(d:b->Prop)(a:C b):Prop:=(∀c∈a,d c)/\a.l<=maxLen
def Bf.ok(a:Bf):Prop:=MH a.Ax/\MH a.Az
def Bt.ok(a:Bt):Prop:=Vs Bf.ok a.B4/\MH a.Ax
def N.ok(a:N):Prop:=rQ a.Ak/\MH a.n
def C1.ok(a:C1):Prop:=Vs N.ok a.CQ/\Vs (Vs N.ok) a.I/\MH a.AA/\MH a.Kq/\MH a.KL/\MH a.OJ/\Vs Bt.ok a.Dv
def AY(e:D)(d:C F)(f:F):Prop:=∀b a c,FV b a=A (d,c)->W9 (pos e) a b=A (f,c)
def KI(a:Ae F)(c:F):Ah:=match a with|some b=>Ud b c|none=>Aa
def Ry:∀a:T,T.eq a a=L
 | .h=>rfl
 | .o a=>Ry a
 | .i a=>Ry a
def XM(a:D):AW a a=L:=Aee a
mutual
def YT:∀b:F,FD b b=L
 | .b c=>Afq c
 | .i d c=>by unfold FD;rw[(Oi d d).2 B,Kz];simp
 | .s c=>by unfold FD;rw[MY];simp
 | .p c f=>by unfold FD;rw[Ry,XM];rfl
 | .pn=>rfl
 | .Z c g h i j=>by unfold FD;simp only[Ry,XM,Bool.and_self]
 | .sn=>rfl
 | .m c=>Ry c
 | .mn=>rfl
 | .f c a=>by unfold FD;rw[Ry,O2 a];rfl
 | .fn=>rfl
 | .S a=>O2 a
 | .AB a=>O2 a
 | .ic f b=>by unfold FD;rw[XM,YT b];rfl
 | .KZ=>rfl
 | .pi a=>O2 a
 | .CV a=>dB a
 | .mi a e=>by unfold FD;rw[O2 a,O2 e];rfl
def O2:∀a:C _,JP a a=L
 |[]=>rfl
 |b::a=>by unfold JP;rw[YT b,O2 a];rfl
def dB:∀a:C _,O3 a a=L
 |[]=>rfl
 |b::a=>by unfold O3;rw[O2 b,dB a];rfl
end
def dK(a:F):Qb a a=L:=by have b:=YT a;cases a<;>first|exact b|(unfold Qb;simp only[Ry,XM,Kz,MY,(Oi _ _).2 B,Afq];rfl)
def dL:∀a:C _,Uc a a=L
 |[]=>rfl
 |b::a=>by show Aj (Qb b b) (Uc a a) Aa=L;rw[dK,dL a];rfl
def lI(a:F):Ud a a=L:=by have b:=dK a;cases a<;>first|exact b|exact dL _
@[simp] theorem L0(a:F):KI (A a) a=L:=lI a
@[simp] theorem wS (c:C F) (a:G) (b:F):Bv .Cq c a b=KI (AM a c) b:=rfl
@[simp] theorem wR (b:D) (d:C F) (a:G) (c:F):Bv (.ld b) d a c=KI (A9 b a d) c:=rfl
@[simp] theorem Adx (a:D) (b:G):C0 a b []=L:=rfl
@[simp] theorem Adw (a:D) (b:G) (d:D) (e:Rd) (g:C F) (f:F) (c:C Ev):C0 a b (⟨d,e,g,f⟩::c)=Aj (Aj (Nat.testBit a d) L (Bv e g b f)) (C0 a b c) Aa:=rfl
@[simp] theorem Acg {c:Type} (b:c) (a:C _):C2 L b a=b::a:=rfl
@[simp] theorem Acf {c:Type} (b:c) (a:C _):C2 Aa b a=a:=rfl
@[simp] theorem Adz (a:D) (b:Rd) (d:C F) (c:F):DU a b d c []=L:=rfl
@[simp] theorem Ady (a:D) (b:Rd) (d:C F) (c:F) (g:D) (e:G) (f:C (D×G)):DU a b d c ((g,e)::f)=Aj (Aj (Nat.testBit a g) L (Bv b d e c)) (DU a b d c f) Aa:=rfl
def Nf:F->Ah
 | .S a| .f _ a| .AB a=>a.all Im
 |b=>Im b
def oT{b:F}(c:Im b=L)(a:G):Dp a b=A (b,a):=UA _ a c
def W6{b:F}(a:Nf b=L)(c:G):Dp c b=A (b,c):=by cases b<;>first|exact oQ a|exact oS a|exact W7 a|(refine oT ?_ c;exact a)
def fD:∀{c:C F}(b:c.all Nf=L)(a:G),FV a c=A (c,a)
 |[],_,a=>oW a
 |d::c,b,a=>by rw[Aer,AdO]at b;rw[Sx,W6 b.1];simp[fD b.2]
variable{a:D}
def Bu{e:C F}{d:F}(i:MI a)(g:KX (pos a)=Aa)(h:Nf d=L)(b:∃c,xx W9 a e G.Aq=A (d,c)):AY a e d:=λk j l f=>by
 let⟨c,b⟩:=b
 exact d0 i g f b (W6 h c)
def AY.at{c:D}{b:C F}{d:F}(e:AY c b d)(f:b.all Nf=L)(a:G):W9 (pos c) b a=A (d,a):=e a _ a (fD f a)
def H6(a b:K):K:=if a<b then-1 else if b<a then 1 else 0
def IN(a b:K):K:=if a≠0 then a else b
def fO(a:K):AY 184 [B6 a] (.b Aa):=Bu B B B ⟨G.Aq,by rw[sj];simp[B6]⟩
def Z7(a b:K):AY 130 [B6 a,B6 b] (B6 (H6 a b)):=Bu B B B ⟨G.Aq,by have c:=(fO a).at B;have d:=(fO b).at B;unfold B6 at c d;rw[UQ.1];simp[B6,c,d,UQ.2.1,UQ.2.2.2.1,UQ.2.2.2.2.1,UQ.2.2.2.2.2,H6];by_cases e:a<b<;>by_cases f:b<a<;>simp[e,f]⟩
def o6(a b:K):AY 127 [.CV [[B6 a],[B6 b]]] (B6 (IN a b)):=Bu B B B ⟨G.Aq,by
 rw[MK.1];have g:AR 1 [.CV [[B6 a],[B6 b]],.i .n 0]=A (.pi [B6 a]):=ZG (d:=0) B B;have h:AR 1 [.CV [[B6 a],[B6 b]],.i .n 1]=A (.pi [B6 b]):=ZG (d:=1) B B;have c:IntKind.wrap .n 1=1:=B;have d:IntKind.wrap .n 2=2:=B;unfold B6 at*;rw[nW,AdP,MK.2.2.1];simp[MK.2.2.2.1,MK.2.2.2.2,MK.2.1,g,c,d,IN];by_cases e:a=0
 .subst e;simp only[Aea];rw[MK.2.2.1];simp[MK.2.2.2.1,MK.2.2.2.2,MK.2.1,h,c,d];by_cases f:b=0;.subst f;simp only[Aea];rw[MK.2.2.1];simp[MK.2.1]
  .grind
 .grind⟩
def eB(a b:K){c:G}{d:T}(e:c.M d=A (.I 2 [B6 a,B6 b])):W9 (pos 127) [.Z d 0 2 3 1] c=A (B6 (IN a b),c.set d (.rc 2 [B6 a,B6 b])):=
 o6 a b c _ _ (by rw[Sx,fC (e:=2) (c:=[B6 a,B6 b]) (by rw[e];rfl) (by grind) (by grind) B];rfl)
theorem dc(c:T)(a b:K):Dq 2 1 c [.i .n a,.i .n b]=A (.I 2 [.i .n a,.i .n b],.Z c 0 2 3 1):=rfl
def Lo(a b:Bf):K:=IN (H6 a.Ax b.Ax) (H6 a.Az b.Az)
def o9(a b:Bf):AY 129 [.S a.c,.S b.c] (B6 (Lo a b)):=Bu B B B (by have c:=(Z7 a.Ax b.Ax).at B;have d:=(Z7 a.Az b.Az).at B;have e:=λf i g=>eB (H6 a.Ax b.Ax) (H6 a.Az b.Az) (c:=f) (d:=i) g;unfold B6 at c d e;rw[r0];simp[B6,Bf.c,c,d,dc,e,Lo])
@[simp] theorem uu(a:T):(a=a.FI)=False:=Ae1 λb=>by have:=AdW T.num b;rw[T.Fb]at this;omega
@[simp] theorem Adg (a:T):(a.FI=a)=False:=Ae1 λb=>by have:=AdW T.num b;rw[T.Fb]at this;omega
@[simp] theorem Adc (a:T):(a=a.FI.FI)=False:=Ae1 λb=>by have:=AdW T.num b;rw[T.Fb,T.Fb]at this;omega
@[simp] theorem Adf (a:T):(a.FI.FI=a)=False:=Ae1 λb=>by have:=AdW T.num b;rw[T.Fb,T.Fb]at this;omega
theorem WH {a:D} {c:G} {e:T} {d b:C F} (i:e=c.next) (h:b.l=a) (g:BU b=L):AX a (c.V (.I a d)) [.p e 0,.S b]=A (AC,(c.V (.I a d)).set e (.I a b)):=by subst i;show Aj (Aj (AW (Bq b) a) (BU b) Aa) (match(c.V (.I a d)).Ep c.next 0 a b with|some f=>A (AC,f)|none=>O) O=_;rw[GK,h,Aee,g,Ki (a:=a) (i:=d) (by simp)];simp
def Ge:C Bf->C Bf->K
 |[],[]=>0
 |[],_::_=> -1
 |_::_,[]=>1
 |a::c,b::d=>if Lo a b≠0 then Lo a b else Ge c d
variable{e:Type}
def Ds{b:C e}(c:a<b.l):∃d,b[a]? =A d/\b.d a=d::b.d (a+1):=⟨b[a],by simp[c],by rw[Ain c]⟩
def NK(b:a<1000000000):IntKind.wrap .n ((a:K)+1)=((a+1:D):K):=by rw[NL (by omega) (by omega)];rfl
def tx(c e:C Bf)(V:c.l<1000000000):∀o a (b:G),c.l-a=o->a<=c.l->a<=e.l->∃q,jj W9 128 3 [B6 c.l,Z Bf.c c,.f (pos 129) [],B6 a,Z Bf.c c,Z Bf.c e] b=A (B6 (Ge (c.d a) (e.d a)),q):=by
 intro o
 induction o with
 |zero=>
  intro a b E F H;have:a=c.l:=by omega
  subst this;rw[Pp.2.2.1];simp only[B6,D7,AdP,EF,Int.lt_irrefl,Ael,AdZ,Ad3];rw[Pp.2.1];simp only[DF,AdP,D7,EF,AdV];rw[AfA];by_cases j:c.l<e.l;.obtain⟨g,_,p⟩:=Ds j;rw[p,Af (by omega)];exact⟨b,B⟩
  .have:e.l=c.l:=by omega
   rw[Ad (by omega),Pp.2.2.2.2.2.2,<-this,AfA];exact⟨b,B⟩
 |succ o R=>
  intro a b E F H;have I:a<c.l:=by omega
  obtain⟨d,P,r⟩:=Ds I;have v:=EZ (a:=Bf.c) (f:=2) (i:=.n) P B;rw[Pp.2.2.1];have J:(a:K)<c.l:=by omega
  simp only[B6,D7,AdP,EF,J,Ad4,Aea];rw[Pp.2.2.2.1,v];have u:=λ(b:G)(d:Bf)(S:T)(N:S=b.next)=>WH (a:=2) (c:=b) (d:=[.i .n 0,.i .n 0]) (b:=d.c) N B B;have t:∀(b:G)(d:Bf),A9 2 b [.pi d.c]=A (.S d.c):=λ_ _=>B;simp only[AdP,t,O4,u,DF,JW,EF,AdV];by_cases j:(e.l:K)<=a;.rw[Af j,r,show e.d a=[]from Ad1 (by omega)];exact⟨_,B⟩
  .rw[Ad j];have M:a<e.l:=by omega
   obtain⟨g,Q,s⟩:=Ds M;have w:=EZ (a:=Bf.c) (f:=2) (i:=.n) Q B;rw[Pp.2.2.2.2.2.1,w];have x:=(o9 d g).at B;have U:=u ((b.V (.I 2 [.i .n 0,.i .n 0])).set b.next (.I 2 d.c)) g b.next.FI B;simp only[AdP,t,O4,G.Mr,G.Gh,U,F5,wk,G.Mr,G.Gh,wi,Aea,Ad2,CK,uu,Ad3,Option.map_some,Kv,Ad5,x,B6,DW,EF];by_cases m:Lo d g=0;.simp only[m,Ad4,Ad8,AdZ,Ad3];rw[Pp.2.2.2.2.1];simp only[Lt,AdP,NK (a:=a) (by omega)];obtain⟨q,p⟩:=R (a+1) _ (by omega) (by omega) (by omega);refine⟨q,p.t ?_⟩;rw[r,s];simp[Ge,m,B6]
   .simp only[m,Ael,Aet,Aea];have y:Ge (d::c.d (a+1)) (g::e.d (a+1))=Lo d g:=by simp[Ge,m]
    rw[r,s,y];exact⟨_,B⟩
def o8(a b:C Bf)(e:a.l<1000000000):AY 128 [Z Bf.c a,Z Bf.c b,.f (pos 129) []] (B6 (Ge a b)):=Bu B B B (by obtain⟨d,c⟩:=tx a b e a.l 0 G.Aq (by omega) (by omega) (by omega);refine⟨d,?_⟩;rw[Pp.1,DF,AdP];exact c)
def D6(a b:Bt):K:=IN (Ge a.B4 b.B4) (H6 a.Ax b.Ax)
def gh(a b:Bt)(g:a.B4.l<1000000000):AY 85 [.S a.c,.S b.c] (B6 (D6 a b)):=Bu B B B (by have c:=(o8 a.B4 b.B4 g).at B;have d:=(Z7 a.Ax b.Ax).at B;have e:=λ(f:G)(j:T) i=>eB (Ge a.B4 b.B4) (H6 a.Ax b.Ax) (c:=f) (d:=j) i;unfold B6 at c d e;rw[s_];simp[B6,Bt.c,c,d,dc,e,D6])
def qP(a b:Bt)(d:a.B4.l<1000000000):AY 84 [.S a.c,.S b.c] (.b (Ao (D6 a b=0))):=Bu B B B (by have c:=(gh a b d).at B;unfold B6 Bt.c at c;rw[s9];simp[B6,Bt.c,c])
def Lv(a:G)(b:T):Prop:=b.num<a.next.num
variable{b:T}
def Lv.ne{a:G}(d:Lv a b):(b=a.next)=False:=Ae1 λc=>by subst c;exact AfX _ d
def Lv.ut{a:G}(d:Lv a b):(a.next=b)=False:=Ae1 λc=>by subst c;exact AfX _ d
theorem Lv.V{a:G}(c:Lv a b)(d:BV):Lv (a.V d) b:=by unfold Lv at c⊢;rw[G.Gh,T.Fb];omega
theorem E9(a:G)(b:BV):Lv (a.V b) a.next:=by unfold Lv;rw[G.Gh,T.Fb];omega
theorem K9{a:G}{c:T}{d:BV}:Lv (a.set c d) b=Lv a b:=by unfold Lv;rw[G.Mr]
def tZ{a:G}{c:T}:Lv (a.GG c) b=Lv a b:=by unfold Lv;rw[G.Tk]
theorem I6{a:G}(c:Lv a b)(d:BV):(a.V d).M b=a.M b:=by rw[SB,Ad (by rw[c.ne];exact id)]
theorem HM(a:G)(b:BV):(a.V b).M a.next=A b:=by rw[SB,Af B]
def TD{h:Type}:∀(a:T)(g:PT h)(c b:Ae h),PT.AJ (PT.AJ g a c) a b=PT.AJ g a b
 | .h,.nil,_,_=>rfl
 | .h,.nd _ _ _,_,_=>rfl
 | .o a,.nil,c,b=>by show PT.nd (PT.AJ (PT.AJ .nil a c) a b) O .nil=.nd (PT.AJ .nil a b) O .nil;rw[TD a]
 | .o a,.nd d f e,c,b=>by show PT.nd (PT.AJ (PT.AJ d a c) a b) f e=.nd (PT.AJ d a b) f e;rw[TD a]
 | .i a,.nil,c,b=>by show PT.nd .nil O (PT.AJ (PT.AJ .nil a c) a b)=.nd .nil O (PT.AJ .nil a b);rw[TD a]
 | .i a,.nd d f e,c,b=>by show PT.nd d f (PT.AJ (PT.AJ e a c) a b)=.nd d f (PT.AJ e a b);rw[TD a]
def VN(a:G)(c b:BV):(a.V c).set a.next b=a.V b:=by show G.mk _ _=G.mk _ _;congr 1;exact TD _ _ _ _
def ET{b:D}{c:G}{f a:C F}(e:a.l=b)(d:BU a=L):AX b (c.V (.I b f)) [.p c.next 0,.S a]=A (AC,c.V (.I b a)):=by rw[WH B e d,VN]
def AH(b c:G):Prop:=∀a,Lv b a->c.M a=b.M a/\Lv c a
def AH.refl(a:G):AH a a:=λc b=>⟨B,b⟩
def AH.AI{d e f:G}(b:AH d e)(g:AH e f):AH d f:=λa c=>⟨((g a (b a c).2).1).t (b a c).1,(g a (b a c).2).2⟩
def AH.V(b:G)(a:BV):AH b (b.V a):=λd c=>⟨I6 c a,c.V a⟩
theorem AH.lv{b c:G}(d:AH b c){a:T}(e:Lv b a):Lv c a:=(d a e).2
theorem AH.M{b c:G}(d:AH b c){a:T}(e:Lv b a):c.M a=b.M a:=(d a e).1
def AH.set{a c:G}(d:AH a c){e:T}(g:¬Lv a e)(h:BV):AH a (c.set e h):=λf b=>by refine⟨?_,by rw[K9];exact d.lv b⟩;rw[AN,Ad (λf=>by subst f;exact g b)];exact d.M b
def EX(a:G):¬Lv a a.next:=AfX _
def Ay{b:G}{d:T}{f:D}{c:C F}(e:b.M d=A (.I f c))(a:D):b.Ap d a=c[a]? :=X9 (by rw[e];rfl) a
def D1{e:G}{f:T}{d:D}{c:C F}(g:e.M f=A (.I d c))(b a:D):e.AL f b a=if b+a<=d then A (if a=d then c else(c.d b).t a)else O:=TE (by rw[g];rfl) b a
attribute [grind->] AH.M AH.lv
attribute [grind .] E9
attribute [grind=>] Lv.V
attribute [grind=] I6 HM K9
structure BJ where
 B0:K
 Ct:K
 deriving DecidableEq
def BJ.c(a:BJ):C F:=[.i .n a.B0,.i .n a.Ct]
structure AE where
 I:C N
 AV:C BJ
 deriving DecidableEq
def AE.c(a:AE):C F:=[Z N.c a.I,Z BJ.c a.AV]
structure Bz where
 Ct:K
 v:N
 deriving DecidableEq
def Bz.c(a:Bz):C F:=[.i .n a.Ct,.i .u8 a.v.Ak,.i .n a.v.n]
def Be(a:K):C F:=[.i .n a]
def CN(a:Ah):C F:=[.b a]
def Cv(a:C K):C F:=[Z Be a]
structure B2 where
 Bc:K
 AP:K
 Ax:K
 Az:K
 An:C N
 AG:C (C N)
 AS:C K
 deriving DecidableEq
def B2.c(a:B2):C F:=[.i .n a.Bc,.i .n a.AP,.i .n a.Ax,.i .n a.Az,Z N.c a.An,Z Fh a.AG,Z Be a.AS]
structure A5 where
 FE:K
 Ax:K
 deriving DecidableEq
def A5.c(a:A5):C F:=[.i .n a.FE,.i .n a.Ax]
structure BA where
 Az:K
 next:Ah
 is:Ah
 deriving DecidableEq
def BA.c(a:BA):C F:=[.i .n a.Az,.b a.next,.b a.is]
structure AQ where
 l:C (C K)
 BT:C Ah
 deriving DecidableEq
def AQ.c(a:AQ):C F:=[Z Cv a.l,Z CN a.BT]
structure Ci where
 CQ:C N
 I:C (C N)
 deriving DecidableEq
def Ci.c(a:Ci):C F:=[Z N.c a.CQ,Z Fh a.I]
variable{f:Type}
def H{a:Type}{d:Ae a}{c:a}(e:d=A c)(b:a->Ae f):d.b b=b c:=by rw[e];rfl
variable{d:Type}
@[congr] def AbF{b c:Ae d}(e:b=c)(a:d->Ae f):b.b a=c.b a:=by rw[e]
@[congr] theorem Ab6 (c d:R) {a b:F} (e:a=b):Da c d a=Da c d b:=by rw[e]
@[congr] theorem Ab5 {f:Type} {a b:Ah} (e:a=b) (c d:f):Aj a c d=Aj b c d:=by rw[e]
@[congr] theorem blC {d e:F} {b c:G} (f:d=e) (g:b=c) (a:F->G->R):bl d b a=bl e c a:=by rw[f,g]
theorem AY.H {h:Type} {d:D} {a:C F} {e:F} (f:AY d a e) (g:a.all Nf=L) (b:G) (c:F×G->Ae h):(W9 (pos d) a b).b c=c (e,b):=by rw[f.at g b];rfl
def R_(a:G)(c:D)(b:C F):(a.V (.I c b)).M a.next=A (.I c b):=HM _ _
def lZ(a:G)(d:D)(b:C F)(e:D)(c:F->Ae f):((a.V (.I d b)).Ap a.next e).b c=(b[e]?).b c:=by rw[Ay (R_ a d b)]
def l4(a:G)(c:D)(b:C F)(d:C F->Ae e):((a.V (.I c b)).AL a.next 0 c).b d=d b:=by rw[D1 (R_ a c b),Af (by omega),Af B];rfl
def Uh(a:G)(c:D)(b:C F)(d:BV):((a.V (.I c b)).V d).M a.next=A (.I c b):=(I6 (E9 _ _) _).t (HM _ _)
variable{g:Type}
def l0(a:G)(d:D)(b:C F)(f:BV)(e:D)(c:F->Ae g):(((a.V (.I d b)).V f).Ap a.next e).b c=(b[e]?).b c:=by rw[Ay (Uh a d b f)]
def l5(a:G)(c:D)(b:C F)(e:BV)(d:C F->Ae f):(((a.V (.I c b)).V e).AL a.next 0 c).b d=d b:=by rw[D1 (Uh a c b e),Af (by omega),Af B];rfl
def Wu(a:G)(c:D)(b:C F)(d e:BV):(((a.V (.I c b)).V d).V e).M a.next=A (.I c b):=(I6 (Lv.V (E9 _ _) _) _).t ((I6 (E9 _ _) _).t (HM _ _))
def l1{h:Type}(a:G)(d:D)(b:C F)(f g:BV)(e:D)(c:F->Ae h):((((a.V (.I d b)).V f).V g).Ap a.next e).b c=(b[e]?).b c:=by rw[Ay (Wu a d b f g)]
def l6(a:G)(c:D)(b:C F)(e f:BV)(d:C F->Ae g):((((a.V (.I c b)).V e).V f).AL a.next 0 c).b d=d b:=by rw[D1 (Wu a c b e f),Af (by omega),Af B];rfl
def Wv(a:G)(c:D)(b:C F)(e f d:BV):((((a.V (.I c b)).V e).V f).V d).M a.next=A (.I c b):=(I6 (Lv.V (Lv.V (E9 _ _) _) _) _).t ((I6 (Lv.V (E9 _ _) _) _).t ((I6 (E9 _ _) _).t (HM _ _)))
def l2{i:Type}(a:G)(d:D)(b:C F)(g h f:BV)(e:D)(c:F->Ae i):(((((a.V (.I d b)).V g).V h).V f).Ap a.next e).b c=(b[e]?).b c:=by rw[Ay (Wv a d b g h f)]
def l7{h:Type}(a:G)(c:D)(b:C F)(f g e:BV)(d:C F->Ae h):(((((a.V (.I c b)).V f).V g).V e).AL a.next 0 c).b d=d b:=by rw[D1 (Wv a c b f g e),Af (by omega),Af B];rfl
def Q:
 (∀{h b:Type}(k:h)(a:h->Ae b),(A k).b a=a k)/\
 (∀{h b x:Type}(g:Ae h)(o:h->Ae b)(u:b->Ae x),(g.b o).b u=g.b λk=>(o k).b u)/\
 (∀{h b:Type}(k:h)(j:b),(k,j).1=k)/\
 (∀{h b:Type}(k:h)(j:b),(k,j).2=j)/\
 (∀(q:F)(e:G)(f:D)(k:F)(c:C F)(p:F->G->R),bl q (e.V (.I f (k::c))) p=p q (e.V (.I f (k::c))))/\
 (∀(q:F)(e:G)(c:C Bx)(r:D)(p:F->G->R),bl q (e.V (.Bn c r)) p=p q (e.V (.Bn c r)))/\
 (∀{b:Type}(f:D)(j:T)(a:F->Ae b),(Bl f [.p j 0]).b a=a (.p j f))/\
 (∀{b:Type}(f:D)(c:C F)(a:F->Ae b),(Bl f [.pi c]).b a=a (.pi (c.d f)))/\
 (∀{b:Type}(e:G)(j:T)(i:D)(a:F->Ae b),(AM e [.p j i]).b a=(e.Ap j i).b a)/\
 (∀{b:Type}(f:D)(e:G)(j:T)(i:D)(a:F->Ae b),(A9 f e [.p j i]).b a=(e.AL j i f).b λc=>a (.S c))/\
 (∀{b:Type}(j:T)(i:D)(a:F->Ae b),(Dr [.p j i]).b a=a (.p j i))/\
 (∀{b:Type}(c:C F)(a:F->Ae b),(Dr [.pi c]).b a=a (.pi c))/\
 (∀{h b:Type}(o:h->C F)(c:C h)(a:F->Ae b),(DX [Z o c]).b a=a (.i .n c.l))/\
 (∀{b:Type}(j:T)(i f r m:D)(a:F->Ae b),(DX [.Z j i f r m]).b a=a (.i .n f))/\
 (∀{b:Type}(c:C D)(a:F->Ae b),(HJ [.s c]).b a=a (.i .n c.l))/\
 (∀{b:Type}(n:F)(c:C F)(a:F->Ae b),(CO 0 [.AB (n::c)]).b a=a n)/\
 (∀{b:Type}(n s:F)(c:C F)(a:F->Ae b),(CO 1 [.AB (n::s::c)]).b a=a s)/\
 (∀{b:Type}(n s v:F)(c:C F)(a:F->Ae b),(CO 2 [.AB (n::s::v::c)]).b a=a v)/\
 (∀{h b:Type}(g d:Ae h)(a:h->Ae b),(Aj (A1 Aa (.b Aa)) g d).b a=g.b a)/\
 (∀{h b:Type}(g d:Ae h)(a:h->Ae b),(Aj (A1 Aa (.b L)) g d).b a=d.b a)/\
 (∀{h b:Type}(g d:Ae h)(a:h->Ae b),(Aj (A1 L (.b Aa)) g d).b a=d.b a)/\
 (∀{h b:Type}(g d:Ae h)(a:h->Ae b),(Aj (A1 L (.b L)) g d).b a=g.b a)/\
 (∀{h b:Type}(w:Ah)(g d:Ae h)(a:h->Ae b),(Aj (A1 w AC) g d).b a=d.b a)/\
 (∀{b:Type}(g d:F)(a:F->Ae b),(DY [.b L,g,d]).b a=a g)/\
 (∀{b:Type}(g d:F)(a:F->Ae b),(DY [.b Aa,g,d]).b a=a d)/\
 (∀(g d:R),Da g d (.b L)=g)/\
 (∀(g d:R),Da g d (.b Aa)=d)/\
 (∀(g d:R)(l:Prop)[Decidable l],Da g d (.b (Ao l))=if l then g else d)/\
 (∀(g d:R)(l:Prop)[Decidable l],Da g d (.b (!Ao l))=if l then d else g)/\
 (∀{b:Type}(a:F->Ae b),(DE [.b L]).b a=a (.b Aa))/\
 (∀{b:Type}(a:F->Ae b),(Fi Aa [.b L,.b L]).b a=a (.b L))/\
 (∀{b:Type}(a:F->Ae b),(Fi L [.b L,.b L]).b a=a (.b Aa))/\
 (∀{b:Type}(a:F->Ae b),(Fi Aa [.b L,.b Aa]).b a=a (.b Aa))/\
 (∀{b:Type}(a:F->Ae b),(Fi L [.b L,.b Aa]).b a=a (.b L))/\
 (∀{b:Type}(a:F->Ae b),(DE [.b Aa]).b a=a (.b L))/\
 (∀{b:Type}(a:F->Ae b),(Fi Aa [.b Aa,.b L]).b a=a (.b Aa))/\
 (∀{b:Type}(a:F->Ae b),(Fi L [.b Aa,.b L]).b a=a (.b L))/\
 (∀{b:Type}(a:F->Ae b),(Fi Aa [.b Aa,.b Aa]).b a=a (.b L))/\
 (∀{b:Type}(a:F->Ae b),(Fi L [.b Aa,.b Aa]).b a=a (.b Aa))/\
 (∀{b:Type}(e:G)(f:D)(c:C F)(i:D)(a:F->Ae b),((e.V (.I f c)).Ap e.next i).b a=(c[i]?).b a)/\
 (∀{b:Type}(e:G)(f:D)(c:C F)(a:C F->Ae b),((e.V (.I f c)).AL e.next 0 f).b a=a c)/\
 (∀{b:Type}(e:G)(f:D)(c:C F)(d:BV)(i:D)(a:F->Ae b),(((e.V (.I f c)).V d).Ap e.next i).b a=(c[i]?).b a)/\
 (∀{b:Type}(e:G)(f:D)(c:C F)(d:BV)(a:C F->Ae b),(((e.V (.I f c)).V d).AL e.next 0 f).b a=a c)/\
 (∀{b:Type}(e:G)(f:D)(c:C F)(d m:BV)(i:D)(a:F->Ae b),((((e.V (.I f c)).V d).V m).Ap e.next i).b a=(c[i]?).b a)/\
 (∀{b:Type}(e:G)(f:D)(c:C F)(d m:BV)(a:C F->Ae b),((((e.V (.I f c)).V d).V m).AL e.next 0 f).b a=a c)/\
 (∀{b:Type}(e:G)(f:D)(c:C F)(d m t:BV)(i:D)(a:F->Ae b),(((((e.V (.I f c)).V d).V m).V t).Ap e.next i).b a=(c[i]?).b a)/\
 (∀{b:Type}(e:G)(f:D)(c:C F)(d m t:BV)(a:C F->Ae b),(((((e.V (.I f c)).V d).V m).V t).AL e.next 0 f).b a=a c):=
 ⟨Rl,
  λg _ _=>by cases g<;>rfl,
  Rl,
  Rl,
  Rl,
  Rl,
  λf j a=>by rw[EG,Ad2];rfl,
  Rl,
  Rl,
  λf e j i a=>by rw[F5];cases e.AL j i f<;>rfl,
  Rl,
  Rl,
  λo c a=>by rw[DF];rfl,
  Rl,
  λc a=>by rw[nX];rfl,
  Rl,
  Rl,
  Rl,
  Rl,
  Rl,
  Rl,
  Rl,
  Rl,
  Rl,
  Rl,
  Rl,
  Rl,
  λg d l _=>by by_cases e:l<;>simp[e],
  λg d l _=>by by_cases e:l<;>simp[e],
  Rl,
  Rl,
  Rl,
  Rl,
  Rl,
  Rl,
  Rl,
  Rl,
  Rl,
  Rl,
  lZ,
  l4,
  l0,
  l5,
  l1,
  l6,
  l2,
  l7⟩
def QC:
 (∀{e:Type}(d:IntKind)(b c:K)(a:F->Ae e),(A6 .lss [.i d b,.i d c]).b a=a (.b (Ao (b<c))))/\
 (∀{e:Type}(d:IntKind)(b c:K)(a:F->Ae e),(A6 .leq [.i d b,.i d c]).b a=a (.b (Ao (b<=c))))/\
 (∀{e:Type}(d:IntKind)(b c:K)(a:F->Ae e),(A6 .geq [.i d b,.i d c]).b a=a (.b (Ao (c<=b))))/\
 (∀{e:Type}(d:IntKind)(b c:K)(a:F->Ae e),(A6 .eql [.i d b,.i d c]).b a=a (.b (Ao (b=c))))/\
 (∀{e:Type}(d:IntKind)(b c:K)(a:F->Ae e),(A6 .neq [.i d b,.i d c]).b a=a (.b (!Ao (b=c))))/\
 (∀{e:Type}(b c:C D)(a:F->Ae e),(FS .eql [.s b,.s c]).b a=a (.b (Ao (b=c)))):=
 ⟨λd b c a=>by rw[D7];rfl,
  λd b c a=>by rw[Pa];rfl,
  λd b c a=>by rw[JW];rfl,
  λd b c a=>by rw[Ch];rfl,
  λd b c a=>by rw[DW];rfl,
  λb c a=>by rw[Pb];rfl⟩
def QP:
 (∀{d:Type}(c e:Ah)(a:F->Ae d),(DY [.b c,.b e,.b Aa]).b a=a (.b (c&&e))):=
 λc e a=>by cases c<;>rfl
def Bh(b:a<1000000000):A6 .add [.i .n (a:K),.i .n 1]=A (.i .n ((a+1:D):K)):=by rw[Lt,NK b]
def FA{a b:K}(c: -9223372036854775808<=a-b)(d:a-b<=9223372036854775807):A6 .sub [.i .n a,.i .n b]=A (.i .n (a-b)):=by rw[ZE,NL c d]
def F2{a b:K}(c: -9223372036854775808<=a+b)(d:a+b<=9223372036854775807):A6 .add [.i .n a,.i .n b]=A (.i .n (a+b)):=by rw[Lt,NL c d]
def Abd{b:Ah}(e:b=L)(c f:Ae d)(a:d->Ae g):(Aj (A1 L (.b b)) c f).b a=c.b a:=by rw[e];rfl
def Abc{b:Ah}(e:b=Aa)(f c:Ae d)(a:d->Ae g):(Aj (A1 L (.b b)) f c).b a=c.b a:=by rw[e];rfl
def Up{c:Ah}(e:c=L)(b:d)(a:d->Ae f):(Aj c (A b) O).b a=a b:=by rw[e];rfl
def Lq{a:Ah}(c:a=L)(b d:e):Aj (Aj a L Aa) b d=b:=by rw[c];rfl
def Gn{a:Ah}(c:a=L)(b d:e):Aj a b d=b:=by rw[c];rfl
def tj{a:G}{c:D}{b:C F}:A9 c (a.V (.I c b)) [.p a.next 0]=A (.S b):=by rw[F5,D1 (R_ a c b),Af (by omega),Af B];rfl
def tl{a:G}{c:D}{b:C F}{d:BV}:A9 c ((a.V (.I c b)).V d) [.p a.next 0]=A (.S b):=by rw[F5,D1 (Uh a c b d),Af (by omega),Af B];rfl
def QS:
 (∀(f:D)(b:G),C0 f b []=L)/\
 (∀(f:D)(b:G)(d:D)(i:Rd)(j:C F)(e:F)(c:C Ev),C0 f b (⟨d,i,j,e⟩::c)=Aj (Aj (Nat.testBit f d) L (Bv i j b e)) (C0 f b c) Aa)/\
 (∀(f:D)(i:Rd)(j:C F)(e:F),DU f i j e []=L)/\
 (∀(f:D)(i:Rd)(j:C F)(e:F)(d:D)(b:G)(c:C (D×G)),DU f i j e ((d,b)::c)=Aj (Aj (Nat.testBit f d) L (Bv i j b e)) (DU f i j e c) Aa)/\
 (∀(b:G)(f:T)(h:D)(e:F),Bv .Cq [.p f h] b e=KI (b.Ap f h) e)/\
 (∀(b:G)(a:C F)(e:F),Bv .Cq [.pi a] b e=KI (a[0]?) e)/\
 (∀(b:G)(d:D)(a:C F)(e:F),Bv (.ld d) a b e=KI (A9 d b a) e)/\
 (∀(e:F),KI (A e) e=L)/\
 (∀(f:Ah),Aj f L L=L)/\
 (∀{g:Type}(a k:g),Aj L a k=a)/\
 (∀{g:Type}(a:g)(c:C g),C2 (A1 Aa (.b Aa)) a c=a::c)/\
 (∀{g:Type}(a:g)(c:C g),C2 (A1 Aa (.b L)) a c=c)/\
 (∀{g:Type}(a:g)(c:C g),C2 (A1 L (.b Aa)) a c=c)/\
 (∀{g:Type}(a:g)(c:C g),C2 (A1 L (.b L)) a c=a::c)/\
 (∀{b:G}{d:D}{c:C F},A9 d (b.V (.I d c)) [.p b.next 0]=A (.S c))/\
 (∀(b:G)(d:D)(c:C F)(h:D),(b.V (.I d c)).Ap b.next h=c[h]?)/\
 (∀(b:G)(d:D)(c:C F)(k:BV)(h:D),((b.V (.I d c)).V k).Ap b.next h=c[h]?)/\
 (∀(a:AF),(AF.c a)[0]? =A (.i .n a.Ax))/\
 (∀(a:AF),(AF.c a)[1]? =A (.i .n a.AD))/\
 (∀(b:G)(a:AF),A9 2 b [.pi (AF.c a)]=A (.S (AF.c a)))/\
 (∀(a:Au),(Au.c a)[0]? =A (.i .u8 a.op))/\
 (∀(a:Au),(Au.c a)[1]? =A (.s a.A8))/\
 (∀(a:Au),(Au.c a)[2]? =A (.i .n a.n))/\
 (∀(a:Au),(Au.c a)[3]? =A (Z AF.c a.A3))/\
 (∀(b:G)(a:Au),A9 4 b [.pi (Au.c a)]=A (.S (Au.c a)))/\
 (∀(a:Ab),(Ab.c a)[0]? =A (.s a.A8))/\
 (∀(a:Ab),(Ab.c a)[1]? =A (.i .n a.An))/\
 (∀(a:Ab),(Ab.c a)[2]? =A (Z Au.c a.Av))/\
 (∀(a:Ab),(Ab.c a)[3]? =A (Z AF.c a.A_))/\
 (∀(a:Ab),(Ab.c a)[4]? =A (Z AF.c a.Bk))/\
 (∀(b:G)(a:Ab),A9 5 b [.pi (Ab.c a)]=A (.S (Ab.c a)))/\
 (∀(a:N),(N.c a)[0]? =A (.i .u8 a.Ak))/\
 (∀(a:N),(N.c a)[1]? =A (.i .n a.n))/\
 (∀(b:G)(a:N),A9 2 b [.pi (N.c a)]=A (.S (N.c a)))/\
 (∀(a:AE),(AE.c a)[0]? =A (Z N.c a.I))/\
 (∀(a:AE),(AE.c a)[1]? =A (Z BJ.c a.AV))/\
 (∀(a:Bz),(Bz.c a)[0]? =A (.i .n a.Ct))/\
 (∀(a:A5),(A5.c a)[0]? =A (.i .n a.FE))/\
 (∀(a:A5),(A5.c a)[1]? =A (.i .n a.Ax))/\
 (∀(a:AQ),(AQ.c a)[0]? =A (Z Cv a.l))/\
 (∀(a:AQ),(AQ.c a)[1]? =A (Z CN a.BT)):=
 ⟨Rl,
  Rl,
  Rl,
  Rl,
  Rl,
  Rl,
  Rl,
  L0,
  λf=>by cases f<;>rfl,
  Rl,
  Rl,
  Rl,
  Rl,
  Rl,
  tj,
  λb d c h=>Ay (R_ b d c) h,
  λb d c k h=>Ay (Uh b d c k) h,
  Rl,
  Rl,
  Rl,
  Rl,
  Rl,
  Rl,
  Rl,
  Rl,
  Rl,
  Rl,
  Rl,
  Rl,
  Rl,
  Rl,
  Rl,
  Rl,
  Rl,
  Rl,
  Rl,
  Rl,
  Rl,
  Rl,
  Rl,
  Rl⟩
def QB:(∀a:Ah,(L||a)=L)/\(∀a:Ah,(Aa||a)=a)/\(∀a:Ah,(a||true)=L)/\(∀a:Ah,(a||false)=a)/\(∀a:Ah,(L&&a)=a)/\(∀a:Ah,(Aa&&a)=Aa)/\(∀a:Ah,(a&&L)=a)/\(∀a:Ah,(a&&Aa)=Aa)/\(!L)=Aa/\(!Aa)=L/\((Aa=L)=False)/\((L=L)=True)/\((L=Aa)=False)/\((Aa=Aa)=True)/\(L !=L)=Aa/\(L !=Aa)=L/\(Aa !=L)=L/\(Aa !=Aa)=Aa:=
 ⟨Rl,Rl,λa=>by cases a<;>rfl,λa=>by cases a<;>rfl,Rl,Rl,λa=>by cases a<;>rfl,λa=>by cases a<;>rfl,B,B,by simp,by simp,by simp,by simp,B,B,B,B⟩
def QD:
 (∀{c:Type}(d:G)(a:Au)(b:F->Ae c),(AM d [.pi ((Au.c a).d 0)]).b b=b (.i .u8 a.op))/\
 (∀{c:Type}(a:Au)(b:F->Ae c),((Au.c a)[0]?).b b=b (.i .u8 a.op))/\
 (∀{c:Type}(d:G)(a:Au)(b:F->Ae c),(AM d [.pi ((Au.c a).d 1)]).b b=b (.s a.A8))/\
 (∀{c:Type}(a:Au)(b:F->Ae c),((Au.c a)[1]?).b b=b (.s a.A8))/\
 (∀{c:Type}(a:Au)(b:F->Ae c),((Au.c a)[2]?).b b=b (.i .n a.n))/\
 (∀{c:Type}(d:G)(a:Au)(b:F->Ae c),(AM d [.pi ((Au.c a).d 3)]).b b=b (Z AF.c a.A3))/\
 (∀{c:Type}(a:Au)(b:F->Ae c),((Au.c a)[3]?).b b=b (Z AF.c a.A3))/\
 (∀{c:Type}(d:G)(a:Au)(b:F->Ae c),(A9 4 d [.pi (Au.c a)]).b b=b (.S (Au.c a)))/\
 (∀(d:G)(a:Au)(e:F->G->R),bl (.p d.next 0) (d.V (.I (Bq (F.I (.S (Au.c a)))) (F.I (.S (Au.c a))))) e=e (.p d.next 0) (d.V (.I 4 (Au.c a))))/\
 (∀{c:Type}(d:G)(f:C F)(a:Au)(b:F×G->Ae c),(AX 4 (d.V (.I 4 f)) [.p d.next 0,.S (Au.c a)]).b b=b (AC,d.V (.I 4 (Au.c a))))/\
 (∀{c:Type}(d:G)(a:Ab)(b:F->Ae c),(AM d [.pi ((Ab.c a).d 0)]).b b=b (.s a.A8))/\
 (∀{c:Type}(a:Ab)(b:F->Ae c),((Ab.c a)[0]?).b b=b (.s a.A8))/\
 (∀{c:Type}(d:G)(a:Ab)(b:F->Ae c),(AM d [.pi ((Ab.c a).d 1)]).b b=b (.i .n a.An))/\
 (∀{c:Type}(a:Ab)(b:F->Ae c),((Ab.c a)[1]?).b b=b (.i .n a.An))/\
 (∀{c:Type}(d:G)(a:Ab)(b:F->Ae c),(AM d [.pi ((Ab.c a).d 2)]).b b=b (Z Au.c a.Av))/\
 (∀{c:Type}(a:Ab)(b:F->Ae c),((Ab.c a)[2]?).b b=b (Z Au.c a.Av))/\
 (∀{c:Type}(d:G)(a:Ab)(b:F->Ae c),(AM d [.pi ((Ab.c a).d 3)]).b b=b (Z AF.c a.A_))/\
 (∀{c:Type}(a:Ab)(b:F->Ae c),((Ab.c a)[3]?).b b=b (Z AF.c a.A_))/\
 (∀{c:Type}(d:G)(a:Ab)(b:F->Ae c),(AM d [.pi ((Ab.c a).d 4)]).b b=b (Z AF.c a.Bk))/\
 (∀{c:Type}(a:Ab)(b:F->Ae c),((Ab.c a)[4]?).b b=b (Z AF.c a.Bk))/\
 (∀{c:Type}(d:G)(a:Ab)(b:F->Ae c),(A9 5 d [.pi (Ab.c a)]).b b=b (.S (Ab.c a)))/\
 (∀(d:G)(a:Ab)(e:F->G->R),bl (.p d.next 0) (d.V (.I (Bq (F.I (.S (Ab.c a)))) (F.I (.S (Ab.c a))))) e=e (.p d.next 0) (d.V (.I 5 (Ab.c a))))/\
 (∀{c:Type}(d:G)(f:C F)(a:Ab)(b:F×G->Ae c),(AX 5 (d.V (.I 5 f)) [.p d.next 0,.S (Ab.c a)]).b b=b (AC,d.V (.I 5 (Ab.c a))))/\
 (∀{c:Type}(d:G)(a:N)(b:F->Ae c),(AM d [.pi ((N.c a).d 0)]).b b=b (.i .u8 a.Ak))/\
 (∀{c:Type}(a:N)(b:F->Ae c),((N.c a)[0]?).b b=b (.i .u8 a.Ak))/\
 (∀{c:Type}(a:N)(b:F->Ae c),((N.c a)[1]?).b b=b (.i .n a.n))/\
 (∀{c:Type}(d:G)(a:N)(b:F->Ae c),(A9 2 d [.pi (N.c a)]).b b=b (.S (N.c a)))/\
 (∀(d:G)(a:N)(e:F->G->R),bl (.p d.next 0) (d.V (.I (Bq (F.I (.S (N.c a)))) (F.I (.S (N.c a))))) e=e (.p d.next 0) (d.V (.I 2 (N.c a))))/\
 (∀{c:Type}(d:G)(f:C F)(a:N)(b:F×G->Ae c),(AX 2 (d.V (.I 2 f)) [.p d.next 0,.S (N.c a)]).b b=b (AC,d.V (.I 2 (N.c a))))/\
 (∀{c:Type}(d:G)(a:BJ)(b:F->Ae c),(AM d [.pi ((BJ.c a).d 0)]).b b=b (.i .n a.B0))/\
 (∀{c:Type}(d:G)(a:AE)(b:F->Ae c),(AM d [.pi ((AE.c a).d 0)]).b b=b (Z N.c a.I))/\
 (∀{c:Type}(a:AE)(b:F->Ae c),((AE.c a)[0]?).b b=b (Z N.c a.I))/\
 (∀{c:Type}(d:G)(a:AE)(b:F->Ae c),(AM d [.pi ((AE.c a).d 1)]).b b=b (Z BJ.c a.AV))/\
 (∀{c:Type}(d:G)(a:AE)(b:F->Ae c),(A9 2 d [.pi (AE.c a)]).b b=b (.S (AE.c a)))/\
 (∀{c:Type}(d:G)(f:C F)(a:AE)(b:F×G->Ae c),(AX 2 (d.V (.I 2 f)) [.p d.next 0,.S (AE.c a)]).b b=b (AC,d.V (.I 2 (AE.c a))))/\
 (∀{c:Type}(a:AQ)(b:F->Ae c),((AQ.c a)[1]?).b b=b (Z CN a.BT))/\
 (∀(d:G)(a:AQ)(e:F->G->R),bl (.p d.next 0) (d.V (.I (Bq (F.I (.S (AQ.c a)))) (F.I (.S (AQ.c a))))) e=e (.p d.next 0) (d.V (.I 2 (AQ.c a)))):=
 ⟨Rl,
  Rl,
  Rl,
  Rl,
  Rl,
  Rl,
  Rl,
  Rl,
  Rl,
  λd f a b=>H (ET B B) b,
  Rl,
  Rl,
  Rl,
  Rl,
  Rl,
  Rl,
  Rl,
  Rl,
  Rl,
  Rl,
  Rl,
  Rl,
  λd f a b=>H (ET B B) b,
  Rl,
  Rl,
  Rl,
  Rl,
  Rl,
  λd f a b=>H (ET B B) b,
  Rl,
  Rl,
  Rl,
  Rl,
  Rl,
  λd f a b=>H (ET B B) b,
  Rl,
  Rl⟩
def QT:
 (∀{f:Type}(d:IntKind)(a b:K)(c:F->Ae f),a<b->(A6 .lss [.i d a,.i d b]).b c=c (.b L))/\
 (∀{f:Type}(d:IntKind)(a b:K)(c:F->Ae f),¬(a<b)->(A6 .lss [.i d a,.i d b]).b c=c (.b Aa))/\
 (∀{f:Type}(d:IntKind)(a b:K)(c:F->Ae f),a<=b->(A6 .leq [.i d a,.i d b]).b c=c (.b L))/\
 (∀{f:Type}(d:IntKind)(a b:K)(c:F->Ae f),¬(a<=b)->(A6 .leq [.i d a,.i d b]).b c=c (.b Aa))/\
 (∀{f:Type}(d:IntKind)(a b:K)(c:F->Ae f),b<a->(A6 .gtr [.i d a,.i d b]).b c=c (.b L))/\
 (∀{f:Type}(d:IntKind)(a b:K)(c:F->Ae f),¬(b<a)->(A6 .gtr [.i d a,.i d b]).b c=c (.b Aa))/\
 (∀{f:Type}(d:IntKind)(a b:K)(c:F->Ae f),b<=a->(A6 .geq [.i d a,.i d b]).b c=c (.b L))/\
 (∀{f:Type}(d:IntKind)(a b:K)(c:F->Ae f),¬(b<=a)->(A6 .geq [.i d a,.i d b]).b c=c (.b Aa))/\
 (∀{f:Type}(d:IntKind)(a b:K)(c:F->Ae f),a=b->(A6 .eql [.i d a,.i d b]).b c=c (.b L))/\
 (∀{f:Type}(d:IntKind)(a b:K)(c:F->Ae f),¬(a=b)->(A6 .eql [.i d a,.i d b]).b c=c (.b Aa))/\
 (∀{f:Type}(d:IntKind)(a b:K)(c:F->Ae f),a=b->(A6 .neq [.i d a,.i d b]).b c=c (.b Aa))/\
 (∀{f:Type}(d:IntKind)(a b:K)(c:F->Ae f),¬(a=b)->(A6 .neq [.i d a,.i d b]).b c=c (.b L))/\
 (∀{f:Type}(a b:C D)(c:F->Ae f),¬(a=b)->(FS .eql [.s a,.s b]).b c=c (.b Aa)):=
 ⟨λd a b c e=>by rw[D7,A0 e];rfl,
  λd a b c e=>by rw[D7,A2 e];rfl,
  λd a b c e=>by rw[Pa,A0 e];rfl,
  λd a b c e=>by rw[Pa,A2 e];rfl,
  λd a b c e=>by rw[Ew,A0 e];rfl,
  λd a b c e=>by rw[Ew,A2 e];rfl,
  λd a b c e=>by rw[JW,A0 e];rfl,
  λd a b c e=>by rw[JW,A2 e];rfl,
  λd a b c e=>by rw[Ch,A0 e];rfl,
  λd a b c e=>by rw[Ch,A2 e];rfl,
  λd a b c e=>by rw[DW,A0 e];rfl,
  λd a b c e=>by rw[DW,A2 e];rfl,
  λa b c e=>by rw[Pb,A2 e];rfl⟩
def ZR:(∀(i:F)(c:G)(e:F->G->R),bl i c e=e i c)/\(∀f,F.I (.S f)=f)/\((¬False)=True)/\(∀(b:T)(h:D),Bl 0 [.p b h]=A (.p b h))/\(∀(g:D)(b:T)(d j:D),Bl g [.p b (d*j)]=A (.p b (d*j+g)))/\(∀a,Bq (AF.c a)=2)/\(∀a,Bq (Au.c a)=4)/\(∀a,Bq (Ab.c a)=5)/\(∀a,Bq (N.c a)=2)/\(∀a,Bq (Bf.c a)=2)/\(∀a,Bq (Bt.c a)=2)/\(∀a,Bq (BJ.c a)=2)/\(∀a,Bq (AE.c a)=2)/\(∀a,Bq (Bz.c a)=3)/\(∀a,Bq (B2.c a)=7)/\(∀a,Bq (A5.c a)=2)/\(∀a,Bq (BA.c a)=3)/\(∀a,Bq (AQ.c a)=2)/\(∀a,Bq (Ci.c a)=2):=
 ⟨λ_ _ _=>B,λ_=>B,AdM,λ_ _=>B,λ_ _ _ _=>B,λ_=>B,λ_=>B,λ_=>B,λ_=>B,λ_=>B,λ_=>B,λ_=>B,λ_=>B,λ_=>B,λ_=>B,λ_=>B,λ_=>B,λ_=>B,λ_=>B⟩
def QZ:=And.intro Q (And.intro QT (And.intro QD ZR))
def oi:Ae F->Ah
 |some _=>L
 |none=>Aa
def ix:Ae BV->D->Ae F
 |some (.I _ b),a=>b[a]?
 |_,_=>O
def rx:Ae BV->D->Ae F
 |some (.I b a),c=>Aj (AW b c) (A (.S a)) O
 |_,_=>O
def kS{e:G}{f:T}{c:Ae BV}(h:e.M f=c)(b:oi (ix c a)=L):e.Ap f a=ix c a:=by
 subst h
 cases d:e.M f with
 |none=>rw[d]at b;cases b
 |some g=>
  cases g with
  |I j i=>exact Ay d a
  |_=>rw[d]at b;cases b
def kT{e:G}{g:T}{b:D}{d:Ae BV}(k:e.M g=d)(a:oi (rx d b)=L):A9 b e [.p g 0]=rx d b:=by
 subst k
 cases c:e.M g with
 |none=>rw[c]at a;cases a
 |some j=>
  cases j with
  |I f h=>
   rw[c]at a
   have a:oi (Aj (AW f b) (A (F.S h)) O)=L:=a
   show _=Aj (AW f b) (A (F.S h)) O
   cases i:AW f b with
   |false=>rw[i]at a;cases a
   |true=>rw[AdQ i]at c;rw[F5,D1 c,Af (by omega),Af B];rfl
  |_=>rw[c]at a;cases a
def RX:(∀e,oi (A e)=L)/\(∀c a b,ix (A (.I c a)) b=a[b]?)/\(∀c a,rx (A (.I c a)) c=A (F.S a))/\(∀(d:F) a,(d::a)[0]? =A d)/\(∀(d:F) a (b:D),(d::a)[b+1]? =a[b]?):=⟨λ_=>B,λ_ _ _=>B,λc a=>by show Aj _ _ _=_;rw[Aee];rfl,λ_ _=>B,λ_ _ _=>B⟩
def QY:=And.intro QZ (And.intro (@kS) (And.intro (@kT) (And.intro RX QS)))
def BK(a b c:K):Ah:=Ao (b<=a)&&Ao (a<=c)
def Lz(c a d:K):AY 64 [.n c,.n a,.n d] (.b (BK c a d)):=Bu B B B ⟨G.Aq,by
 rw[s3];by_cases b:a<=c;.simp only[↓Q,↓QC,↓QP,↓Abd (A0 b),BK]
 .simp only[↓Q,↓QC,↓QP,↓Abc (A2 b),BK,A2 b,AeO]⟩
def ID(b:BN):C Ab->D->K
 |[],_=> -1
 |c::d,a=>if c.A8=b then a else ID b d (a+1)
def CH(a:C Ab)(b:BN):K:=ID b a 0
def CB{b:C _}{c:Ab}(d:b[a]? =A c):AR 5 [Z Ab.c b,.n a]=A (.pi c.c):=EZ d B
def tM(b:C Ab)(e:BN)(o:b.l<1000000000)(g:G):∀c a,b.l-a=c->a<=b.l->jj W9 73 2 [Z Ab.c b,.s e,.n a] g=A (.n (ID e (b.d a) a),g):=by
 intro c
 induction c with
 |zero=>
  intro a h j;have d:¬(a:K)<b.l:=by omega
  rw[S6.2.2.1];simp only[↓Q,↓QC,d,↓reduceIte];rw[S6.2.1,Ad1 (by omega)];rfl
 |succ c p=>
  intro a h j;have d:(a:K)<b.l:=by omega
  let⟨n,k,m⟩:=Ds (b:=b) (a:=a) (by omega)
  rw[S6.2.2.1];simp only[↓Q,↓QC,d,↓reduceIte];rw[S6.2.2.2.1];simp only[↓Q,↓QC,↓QD,↓H (CB k)];rw[m];by_cases f:n.A8=e;.simp only[f,ID,Aea]
  .simp only[f,ID,Ad3];rw[S6.2.2.2.2];simp only[↓Q,↓H (Bh (a:=a) (by omega))];grind
def SA(a:C Ab)(b:BN)(c:a.l<1000000000):AY 73 [Z Ab.c a,.s b] (.n (CH a b)):=Bu B B B ⟨G.Aq,by rw[S6.1];exact tM a b c G.Aq a.l 0 (by omega) (by omega)⟩
def Nq(a:D):Ah:= !(Ao ((a:K)<97)||decide ((122:K)<a))
def Tr(a:D):Ah:= !(Ao ((a:K)<48)||decide ((57:K)<a))||decide ((a:K)=46)
def Jz(a:D):Ah:=Nq a||Tr a
def Ng:BN->Ah
 |[]=>Aa
 |a::b=>Nq a&&Ao (((a::b).l:K)<=24)&&(a::b).all Jz
theorem g1(a:D)(b:BN):Ng (a::b)=(Nq a&&Ao (((a::b).l:K)<=24)&&(a::b).all Jz):=rfl
def hx(a b:K):Ao (a<=b)= !Ao (b<a):=by grind
def lN{d:BN}{c:D}(p:d[c]? =A a)(b:G):jj W9 159 4 [.n (c:K),.s d] b=if Jz a=L then jj W9 159 3 [.n (c:K),.s d] b else A (.b Aa,b):=by have q:=WM (d:=.n) p;have l:=D7 .u8 (a:K) 97;have m:=Ew .u8 (a:K) 122;have n:=D7 .u8 (a:K) 48;have o:=Ew .u8 (a:K) 57;have e:=DW .u8 (a:K) 46;unfold Jz Nq Tr;rw[QQ.2.2.2.2.1];generalize Ao ((a:K)<97)=f at l⊢;generalize Ao ((122:K)<a)=g at m⊢;generalize Ao ((a:K)<48)=h at n⊢;generalize Ao ((57:K)<a)=i at o⊢;generalize Ao ((a:K)=46)=j at e⊢;cases f<;>cases g<;>cases h<;>cases i<;>cases j<;>simp only[Ad8,Aet]at e<;>simp only[Q,ZR, *]<;>simp only[QB,↓reduceIte]
def tA(b:BN)(m:b.l<1000000000)(e:G):∀c a,b.l-a=c->a<=b.l->jj W9 159 2 [.s b,.n a] e=A (.b ((b.d a).all Jz),e):=by
 intro c
 induction c with
 |zero=>
  intro a f g;have d:¬(a:K)<b.l:=by omega
  rw[QQ.2.2.2.1];simp only[↓Q,↓QC,d,↓reduceIte];rw[QQ.2.2.1,Ad1 (by omega)];rfl
 |succ c n=>
  intro a f g;have d:(a:K)<b.l:=by omega
  let⟨k,h,j⟩:=Ds (b:=b) (a:=a) (by omega)
  rw[QQ.2.2.2.1];simp only[↓Q,↓QC,d,↓reduceIte];rw[lN h,j,Aer];cases Jz k
  .rfl
  .rw[Af B,Aep,QQ.2.2.2.2.2];simp only[↓Q,↓H (Bh (a:=a) (by omega))];grind
def pf(c:BN)(m:c.l<1000000000):AY 159 [.s c] (.b (Ng c)):=Bu B B B ⟨G.Aq,by
 rw[QQ.1]
 cases c with
 |nil=>simp only[↓Q,↓QC]<;>rfl
 |cons a b=>
  have q:=tA (a::b) m G.Aq (a::b).l 0 (by omega) (by omega);have o:Hq [.s (a::b),.n 0]=A (.i .u8 a):=WM (d:=.n) (b:=0) B;have n:¬((a::b).l:K)<1:=by grind
  have p:A6 .lss [.n ((a::b).l:K),.n 1]=A (.b Aa):=by rw[D7,A2 n]
  have g:=Ew .n ((a::b).l:K) 24;have h:=D7 .u8 (a:K) 97;have j:=Ew .u8 (a:K) 122;have l:Ao (((a::b).l:K)<=24)= !Ao ((24:K)<(a::b).l):=by grind
  rw[g1,l];unfold Nq;generalize Ao ((24:K)<(a::b).l)=d at g⊢;generalize Ao ((a:K)<97)=e at h⊢;generalize Ao ((122:K)<a)=f at j⊢;have r:jj W9 159 5 [.s (a::b)] G.Aq=A (.b ((a::b).all Jz),G.Aq):=by rw[QQ.2.1];grind
  cases d<;>cases e<;>cases f<;>simp only[QY, *]<;>simp only[QB,↓reduceIte]⟩
def EV{b:C F}{e d:F}{c h:G}(k:MI a)(i:KX (pos a)=Aa)(f:xx W9 a b G.Aq=A (e,c))(j:Dp c e=A (d,h)):AY a b d:=
 λm l n g=>d0 k i g f j
def To:C BN:=[[97,100,100],[115,117,98],[109,117,108],[100,105,118],[109,111,100],[110,101,103],[108,116],[108,101],[101,113],[110,111,116]]
def VW(a:BN):C F:=[.s a]
def pL:AY 204 [] (Z VW To):=EV (c:=G.Aq.V _) (h:=(G.Aq.V _).set _ _) (e:=.Z _ 0 _ _ 1) B B (by rw[sr];rfl) B
def Du(a:BN):K:=if a∈To then(if a=[110,101,103]\/a=[110,111,116]then 1 else 2)else 0
def bI(b:C BN)(a:BN):K:=if a∈b then(if a=[110,101,103]\/a=[110,111,116]then 1 else 2)else 0
def Yq{b:C _}{c:BN}(d:b[a]? =A c):AR 1 [Z VW b,.n a]=A (.pi (VW c)):=EZ d B
def tC(d:BN)(b:C BN)(v:b.l<1000000000)(c:G):∀m a,b.l-a=m->a<=b.l->jj W9 164 2 [Z VW b,.s d,.n a] c=A (.n (bI (b.d a) d),c):=by
 intro m
 induction m with
 |zero=>
  intro a r s;have n:¬(a:K)<b.l:=by omega
  rw[QR.2.2.1];simp only[↓Q,↓QC,n,↓reduceIte];rw[QR.2.1,Ad1 (by omega)];rfl
 |succ m u=>
  intro a r s;have n:(a:K)<b.l:=by omega
  let⟨e,k,t⟩:=Ds (b:=b) (a:=a) (by omega)
  rw[QR.2.2.1];simp only[↓Q,↓QC,n,↓reduceIte];rw[QR.2.2.2.1];have h:∀c,AM c [.pi (VW e)]=A (.s e):=λ_=>B;have f:=Pb e d;have g:=Pb d [110,101,103];have j:=Pb d [110,111,116];rw[t];unfold bI;by_cases q:e=d
  .subst q;rw[Af (Aey ..)];rw[A0 B]at f;by_cases o:e=[110,101,103];.rw[A0 o]at g;simp only[QY,Yq k,h c,f,g];rw[Af (Or.inl o)]
   .rw[A2 o]at g;by_cases p:e=[110,111,116];.rw[A0 p]at j;simp only[QY,Yq k,h c,f,g,j];rw[Af (Or.inr p)]
    .rw[A2 p]at j;simp only[QY,Yq k,h c,f,g,j];rw[Ad (by grind),QR.2.2.2.2.2]
  .rw[A2 q]at f;simp only[QY,H (Yq k),H (h c), *];rw[QR.2.2.2.2.1];simp only[↓Q,↓H (Bh (a:=a) (by omega))];rw[u (a+1) (by omega) (by omega)];unfold bI;have:(d∈e::b.d (a+1))↔d∈b.d (a+1):=by grind
   simp only[this]
def fJ(a:BN):AY 164 [.s a] (.n (Du a)):=Bu B B B ⟨G.Aq,by rw[QR.1];simp only[QY,pL.H B];exact tC a To (by decide) G.Aq 10 0 B (by grind)⟩
def HS(a:Au):Ah:=Ao (a.op=4)||decide (a.op=8)||decide (a.op=9)
def GX(a:Au):Ah:=
 if(HS a != !Ao (a.A8=[]))=L then Aa
 else if a.op=1 then BK a.n (-1000000000) 1000000000
 else if a.op=2 then Ao (a.n=0)||decide (a.n=1)
 else Ao (a.n=0)
def pi(a:Au):AY 161 [.S (Au.c a)] (.b (GX a)):=Bu B B B ⟨G.Aq.V (.I 4 (Au.c a)),by
 rw[aM.1];have m:=Ch .u8 a.op 4;have n:=Ch .u8 a.op 8;have o:=Ch .u8 a.op 9;have h:=Ql a.A8 [];have d:=Ch .u8 a.op 1;have f:=Ch .u8 a.op 2;have i:=Ch .n a.n 0;have j:=Ch .n a.n 1;have p:=Lz a.n (-1000000000) 1000000000;have q:jj W9 161 2 [.p G.Aq.next 0] (G.Aq.V (.I 4 (Au.c a)))=A (.b (if a.op=1 then BK a.n (-1000000000) 1000000000 else if a.op=2 then Ao (a.n=0)||decide (a.n=1)else Ao (a.n=0)),G.Aq.V (.I 4 (Au.c a))):=by
  rw[aM.2.1];by_cases b:a.op=1;.rw[A0 b]at d;simp only[QY,d,p.H B];rw[Af b]
  .rw[A2 b]at d;rw[Ad b];by_cases c:a.op=2;.rw[A0 c]at f;rw[Af c];generalize Ao (a.n=0)=e at i⊢;generalize Ao (a.n=1)=g at j⊢;cases e<;>simp only[QY,d,f,i,j]<;>simp only[QB]
   .rw[A2 c]at f;rw[Ad c];simp only[QY, *];rw[aM.2.2];simp only[QY, *]
 unfold GX HS;generalize Ao (a.op=4)=k at m⊢;generalize Ao (a.op=8)=l at n⊢;generalize Ao (a.op=9)=e at o⊢;generalize Ao (a.A8=[])=g at h⊢;cases k<;>cases l<;>cases e<;>cases g<;>simp only[Ad8,Aet]at h<;>simp only[QY, *]<;>simp only[QB,↓reduceIte]⟩
def ZT(c:BN):∀f b,ID c f b= -1\/∃d a,ID c f b=(b+d:D)/\f[d]? =A a/\a.A8=c
 |[],_=>.i B
 |a::i,b=>by
  unfold ID;by_cases e:a.A8=c;.rw[Af e];exact .j ⟨0,a,by simp,B,e⟩
  .rw[Ad e];rcases ZT c i (b+1)with j|⟨d,g,k,l,h⟩;.grind
   .exact .j ⟨d+1,g,by grind,by grind,h⟩
def Qp(c:C _)(d:BN):CH c d= -1\/∃(b:D)(a:Ab),CH c d=b/\c[b]? =A a/\a.A8=d:=by
 rcases ZT d c 0 with e|⟨b,a,f,g,h⟩;.exact .i e
 .exact .j ⟨b,a,by rw[CH,f,Ad2],g,h⟩
def Pc(c:C Ab)(b:K):K:=match c[b.n]?with|some a=>a.Bk.l|none=>0
def C7(b:C Ab)(a:Au):K:=
 if a.op=5 then 2
 else if a.op=8\/a.op=9 then(if 0<=CH b a.A8 then Pc b (CH b a.A8)else 0)
 else if a.op=1\/a.op=2\/a.op=3\/a.op=4\/a.op=6\/a.op=7\/a.op=10\/a.op=12\/a.op=13\/a.op=14 then 1 else 0
def mO(a:C Ab)(b:Au)(h:a.l<1000000000)(e:G):jj W9 126 4 [.b L,.p e.next 0,Z Ab.c a,.i .u8 b.op] (e.V (.I 4 (Au.c b)))=A (.n (if 0<=CH a b.A8 then Pc a (CH a b.A8)else 0),e.V (.I 4 (Au.c b))):=by
 rw[QL.2.2.1];have c:=SA a b.A8 h;rcases Qp a _ with d|⟨i,j,d,f,_⟩;.rw[d]at c⊢;simp only[Q,QC,QD,c.H B];rw[Ad (by grind),Ad (by grind),QL.2.2.2.1]
 .rw[d]at c⊢;have g:0<=(i:K):=by omega
  simp only[Q,QC,QD,c.H B,H (CB f),reduceIte,g];unfold Pc;rw[AdR,f]
def m1(a:K)(x y:F)(f:G):jj W9 126 4 [.b Aa,x,y,.i .u8 a] f=A (.n (if a=1\/a=2\/a=3\/a=4\/a=6\/a=7\/a=10\/a=12\/a=13\/a=14 then 1 else 0),f):=by
 have g:∀f,jj W9 126 3 [.b L] f=A (.n 1,f):=λf=>by rw[QL.2.2.2.2];simp only[Q]
 rw[QL.2.2.1];have b:=Ch .u8 a 1;have c:=Ch .u8 a 2;have d:=Ch .u8 a 3;have e:=Ch .u8 a 4;have h:=Ch .u8 a 6;have i:=Ch .u8 a 7;have j:=Ch .u8 a 10;have k:=Ch .u8 a 12;have l:=Ch .u8 a 13;have m:=Ch .u8 a 14;by_cases n:a=1;.rw[A0 n]at b;simp only[Q,H b,g];rw[Af (by grind)]
 rw[A2 n]at b;by_cases s:a=2;.rw[A0 s]at c;simp only[Q,H b,H c,g];rw[Af (by grind)]
 rw[A2 s]at c;by_cases t:a=3;.rw[A0 t]at d;simp only[Q,H b,H c,H d,g];rw[Af (by grind)]
 rw[A2 t]at d;by_cases u:a=4;.rw[A0 u]at e;simp only[Q,H b,H c,H d,H e,g];rw[Af (by grind)]
 rw[A2 u]at e;by_cases v:a=6;.rw[A0 v]at h;simp only[Q,H b,H c,H d,H e,H h,g];rw[Af (by grind)]
 rw[A2 v]at h;by_cases w:a=7;.rw[A0 w]at i;simp only[Q,H b,H c,H d,H e,H h,H i,g];rw[Af (by grind)]
 rw[A2 w]at i;by_cases o:a=10;.rw[A0 o]at j;simp only[Q,H b,H c,H d,H e,H h,H i,H j,g];rw[Af (by grind)]
 rw[A2 o]at j;by_cases p:a=12;.rw[A0 p]at k;simp only[Q,H b,H c,H d,H e,H h,H i,H j,H k,g];rw[Af (by grind)]
 rw[A2 p]at k;by_cases q:a=13;.rw[A0 q]at l;simp only[Q,H b,H c,H d,H e,H h,H i,H j,H k,H l,g];rw[Af (by grind)]
 rw[A2 q]at l;by_cases r:a=14;.rw[A0 r]at m;simp only[Q,H b,H c,H d,H e,H h,H i,H j,H k,H l,H m,g];rw[Af (by grind)]
 rw[A2 r]at m;simp only[Q,H b,H c,H d,H e,H h,H i,H j,H k,H l,H m,(λf=>by rw[QL.2.2.2.2];simp only[Q,QL.2.1]:∀f,jj W9 126 3 [.b Aa] f=A (.n 0,f))];rw[Ad (by grind)]
def gm(f:C Ab)(a:Au)(i:f.l<1000000000):AY 126 [Z Ab.c f,.S (Au.c a)] (.n (C7 f a)):=Bu B B B ⟨G.Aq.V (.I 4 (Au.c a)),by
 rw[QL.1];have j:=mO f a i G.Aq;have b:=Ch .u8 a.op 5;have c:=Ch .u8 a.op 8;have e:=Ch .u8 a.op 9;unfold C7;by_cases d:a.op=5;.rw[A0 d]at b;rw[Af d];simp only[Q,QD,H b]
 rw[A2 d]at b;rw[Ad d];by_cases g:a.op=8;.rw[A0 g]at c;rw[Af (Or.inl g)];simp only[Q,QD,H b,H c];grind
 rw[A2 g]at c;by_cases h:a.op=9;.rw[A0 h]at e;rw[Af (Or.inr h)];simp only[Q,QD,H b,H c,H e];grind
 rw[A2 h]at e;rw[Ad (by grind)];simp only[Q,QD,H b,H c,H e];exact m1 a.op _ _ _⟩
def Au.Cl(a:Au):Prop:=a.A3.l<1000000/\a.A8.l<1000000
def Ab.Cl(a:Ab):Prop:=a.Av.l<1000000/\a.A_.l<1000000/\a.Bk.l<1000000/\a.A8.l<1000000/\(-9223372036854775808<=a.An/\a.An<=9223372036854775807)/\∀b∈a.Av,b.Cl
def Cl(a:C Ab):Prop:=a.l<1000000/\∀b∈a,b.Cl
def J1(a:C Ab)(b:Au):K:=match a[(CH a b.A8).n]?with
 |some c=>if 0<=CH a b.A8/\(Ao (0<c.A_.l)=Ao (b.op=9))then c.An else-1
 |none=> -1
def Fy(b:C Ab)(a:Au):K:=
 if a.op=1\/a.op=2\/a.op=3\/a.op=10\/a.op=13\/a.op=14 then 1
 else if a.op=5\/a.op=6\/a.op=7\/a.op=12 then 2
 else if a.op=11 then 3
 else if a.op=4 then(if 0<Du a.A8 then Du a.A8 else-1)
 else if a.op=8\/a.op=9 then J1 b a
 else-1
def mL(c:C Ab)(a:Au)(q:c.l<1000000000)(g:G):jj W9 160 2 [.b L,.p g.next 0,Z Ab.c c] (g.V (.I 4 (Au.c a)))=A (.n (J1 c a),g.V (.I 4 (Au.c a))):=by
 rw[MM.2.2.2.2];have d:=SA c a.A8 q;unfold J1;rcases Qp c a.A8 with e|⟨h,b,e,j,_⟩
 .rw[e]at d⊢;have m:Ao (0<=-1)=Aa:=by grind
  simp only[Q,QC,QD,d.H B,m];rw[MM.2.1];split;.grind
  .rfl
 .rw[e]at d⊢;have n:0<=(h:K):=by omega
  have o:A6 .geq [.n h,.n 0]=A (.b L):=by rw[JW,A0 n]
  have i:=Ch .u8 a.op 9;have f:=Ew .n b.A_.l 0;have p:Ao ((0:K)<b.A_.l)=Ao (0<b.A_.l):=by grind
  rw[p]at f;rw[AdR,j];show _=A (F.n (if 0<=(h:K)/\(Ao (0<b.A_.l)=Ao (a.op=9))then b.An else-1),_);generalize Ao (a.op=9)=k at i⊢;generalize Ao (0<b.A_.l)=l at f⊢;cases k<;>cases l<;>simp only[Q,QD,d.H B,H o,H (CB j),H i,H f,MM.2.1]<;>simp[]
def pg(w:C Ab)(a:Au)(Y:w.l<1000000000):AY 160 [Z Ab.c w,.S (Au.c a)] (.n (Fy w a)):=Bu B B B ⟨G.Aq.V (.I 4 (Au.c a)),by
 have X:=mL w a Y G.Aq;have W:=fJ a.A8;have k:∀o p F b,jj W9 160 4 [.b L,o,p,F] b=A (.n 1,b):=λ_ _ _ b=>by rw[MM.2.2.1];simp only[Q]
 have y:∀o p F b,jj W9 160 3 [.b L,o,p,F] b=A (.n 2,b):=λ_ _ _ b=>by rw[MM.2.2.2.1];simp only[Q]
 have xa:∀o p b,jj W9 160 2 [.b Aa,o,p] b=A (.n (-1),b):=λ_ _ b=>by rw[MM.2.2.2.2];simp only[Q,MM.2.1]
 have c:=Ch .u8 a.op 1;have e:=Ch .u8 a.op 2;have f:=Ch .u8 a.op 3;have g:=Ch .u8 a.op 4;have h:=Ch .u8 a.op 5;have j:=Ch .u8 a.op 6;have m:=Ch .u8 a.op 7;have n:=Ch .u8 a.op 8;have v:=Ch .u8 a.op 9;have i:=Ch .u8 a.op 10;have d:=Ch .u8 a.op 11;have t:=Ch .u8 a.op 12;have l:=Ch .u8 a.op 13;have u:=Ch .u8 a.op 14;unfold Fy;rw[MM.1];by_cases I:a.op=1;.rw[A0 I]at c;rw[Af (by grind)];simp only[Q,QD,H c,k]
 rw[A2 I]at c;by_cases R:a.op=2;.rw[A0 R]at e;rw[Af (by grind)];simp only[Q,QD,H c,H e,k]
 rw[A2 R]at e;by_cases S:a.op=3;.rw[A0 S]at f;rw[Af (by grind)];simp only[Q,QD,H c,H e,H f,k]
 rw[A2 S]at f;by_cases J:a.op=10;.rw[A0 J]at i;rw[Af (by grind)];simp only[Q,QD,H c,H e,H f,H i,k]
 rw[A2 J]at i;by_cases N:a.op=13;.rw[A0 N]at l;rw[Af (by grind)];simp only[Q,QD,H c,H e,H f,H i,H l,k]
 rw[A2 N]at l;by_cases P:a.op=14;.rw[A0 P]at u;rw[Af (by grind)];simp only[Q,QD,H c,H e,H f,H i,H l,H u,k]
 rw[A2 P]at u;rw[Ad (by grind)];simp only[Q,QD,H c,H e,H f,H i,H l,H u];rw[MM.2.2.1];by_cases T:a.op=5;.rw[A0 T]at h;rw[Af (by grind)];simp only[Q,H h,y]
 rw[A2 T]at h;by_cases U:a.op=6;.rw[A0 U]at j;rw[Af (by grind)];simp only[Q,H h,H j,y]
 rw[A2 U]at j;by_cases V:a.op=7;.rw[A0 V]at m;rw[Af (by grind)];simp only[Q,H h,H j,H m,y]
 rw[A2 V]at m;by_cases M:a.op=12;.rw[A0 M]at t;rw[Af (by grind)];simp only[Q,H h,H j,H m,H t,y]
 rw[A2 M]at t;rw[Ad (by grind)];simp only[H h,H j,H m,H t];rw[MM.2.2.2.1];by_cases q:a.op=11;.rw[A0 q]at d;rw[Af q];simp only[Q,H d]
 rw[A2 q]at d;rw[Ad q];by_cases r:a.op=4
 .rw[A0 r]at g;rw[Af r];have s:=Ew .n (Du a.A8) 0;by_cases x:0<Du a.A8;.rw[A0 x]at s;rw[Af x];simp only[Q,QD,H d,H g,W.H B,H s]
  .rw[A2 x]at s;rw[Ad x];simp only[Q,QD,H d,H g,W.H B,H s,MM.2.1]
 rw[A2 r]at g;rw[Ad r];by_cases z:a.op=8;.rw[A0 z]at n;rw[Af (Or.inl z)];simp only[Q,H d,H g,H n,X]
 rw[A2 z]at n;by_cases E:a.op=9;.rw[A0 E]at v;rw[Af (Or.inr E)];simp only[Q,H d,H g,H n,H v,X]
 rw[A2 E]at v;rw[Ad (by grind)];simp only[Q,H d,H g,H n,H v,xa]⟩
def u2{a:C _}(e:Cl a)(b:Au):0<=C7 a b/\C7 a b<1000000:=by
 unfold C7;split;.omega
 split
 .split
  .unfold Pc;split;.rename_i c d;have:=(e.2 c (AdU d)).2.2.1;omega
   .omega
  .omega
 split<;>omega
def K0(d:C Ab)(b:Ab)(a:AF)(c:D):Ah:=
 if a.Ax= -1 then BK a.AD 0 (b.An-1)
 else BK a.Ax 0 ((c:K)-1)&&(match b.Av[a.Ax.n]?with|some e=>BK a.AD 0 (C7 d e-1)|none=>Aa)
def Fa{b:C _}{c:Au}(d:b[a]? =A c):AR 4 [Z Au.c b,.n a]=A (.pi c.c):=EZ d B
def IE{b:C _}{c:AF}(d:b[a]? =A c):AR 2 [Z AF.c b,.n a]=A (.pi c.c):=EZ d B
def pK(f:C _)(d:Ab)(c:AF)(e:D)(p:Cl f)(o:d.Cl)(I:1<=d.An)(E:e<=d.Av.l):AY 203 [Z Ab.c f,.S (Ab.c d),.S (AF.c c),.n e] (.b (K0 f d c e)):=Bu B B B ⟨(G.Aq.V (.I 5 (Ab.c d))).V (.I 2 (AF.c c)),by
 have F:=o.1
 have J:=o.2.2.2.2.1.2
 have n:=Ch .n c.Ax (-1)
 have z:=FA (a:=d.An) (b:=1) (by omega) (by omega)
 have t:=Lz c.AD 0 (d.An-1)
 unfold K0
 rw[hl.1]
 by_cases h:c.Ax= -1
 .rw[A0 h]at n;rw[Af h];simp only[QY,t.H B, *]
 rw[A2 h]at n
 rw[Ad h]
 simp only[QY, *]
 rw[hl.2]
 have r:=FA (a:=e) (b:=1) (by omega) (by omega)
 have k:=Lz c.Ax 0 (e-1)
 cases j:BK c.Ax 0 (e-1)with
 |false=>rw[j]at k;simp only[QY,k.H B, *];rfl
 |true=>
  rw[j]at k;unfold BK at j;rw[AdO,AdV,AdV]at j;obtain⟨m,w⟩:∃m:D,c.Ax=m:=⟨c.Ax.n,by omega⟩;let⟨g,x,_⟩:=Ds (b:=d.Av) (a:=m) (by omega)
  have q:AR 4 [Z Au.c d.Av,.n c.Ax]=A (.pi g.c):=by rw[w];exact Fa x
  have H:=u2 p g;have u:=gm f g (by have:=p.1;omega);have s:=FA (a:=C7 f g) (b:=1) (by omega) (by omega);have v:=Lz c.AD 0 (C7 f g-1);have y:d.Av[c.Ax.n]? =A g:=by grind
  rw[y];simp only[QY,r,k.H B,q,u.H B,Up,s,v.H B,Aep]⟩
def tB(d:C _)(b:Ab)(c:C AF)(e:D)(q:Cl d)(o:b.Cl)(t:1<=b.An)(s:e<=b.Av.l)(v:c.l<1000000):∀g a,c.l-a=g->a<=c.l->jj W9 162 2 [Z Ab.c d,.p G.Aq.next 0,Z AF.c c,.n e,.n a] (G.Aq.V (.I 5 (Ab.c b)))=A (.b ((c.d a).all λn=>K0 d b n e),G.Aq.V (.I 5 (Ab.c b))):=by
 intro g
 induction g with
 |zero=>
  intro a p r;have h:¬(a:K)<c.l:=by omega
  rw[SR.2.2.1];simp only[↓Q,↓QC,h,↓reduceIte];rw[SR.2.1,Ad1 (by omega)];rfl
 |succ g w=>
  intro a p r
  have h:(a:K)<c.l:=by omega
  let⟨m,k,u⟩:=Ds (b:=c) (a:=a) (by omega)
  rw[SR.2.2.1]
  simp only[↓Q,↓QC,h,↓reduceIte]
  rw[SR.2.2.2.1,u,Aer]
  have f:=pK d b m e q o t s
  cases j:K0 d b m _ with
  |false=>rw[j]at f;simp only[QY,IE k,f.H B,QB]
  |true=>rw[j]at f;simp only[QY,IE k,f.H B,QB];rw[SR.2.2.2.2];simp only[↓Q,↓H (Bh (a:=a) (by omega))];grind
def Gl(e:C Ab)(a:Ab)(d:C AF)(b:D):Ah:=d.all λc=>K0 e a c b
def Z8(d:C _)(a:Ab)(b:C AF)(c:D)(g:Cl d)(e:a.Cl)(i:1<=a.An)(h:c<=a.Av.l)(f:b.l<1000000):AY 162 [Z Ab.c d,.S (Ab.c a),Z AF.c b,.n c] (.b (Gl d a b c)):=Bu B B B ⟨_,by have j:=tB d a b c g e i h f b.l 0 (by omega) (by omega);rw[SR.1];simp only[↓Q,↓QD];exact j⟩
def OC(b:C Ab)(c:Ab)(d:D)(a:Au):Ah:=Ao (Fy b a=a.A3.l)&&GX a&&Gl b c a.A3 d
def Nt(c:C Ab)(a:Ab):C Au->D->Ah
 |[],_=>L
 |d::e,b=>OC c a b d&&Nt c a e (b+1)
def KA(b:C Ab)(a:Ab):Ah:=
 Ng a.A8&&Ao (1<=a.An)&&(Ao (a.A_.l=0)||decide ((a.A_.l:K)=a.An))&&
 (Nt b a a.Av 0&&(Gl b a a.A_ a.Av.l&&Gl b a a.Bk a.Av.l))
def lV(c:C Ab)(b:Ab){e:D}{a:Au}(i:b.Av[e]? =A a)(n:Cl c)(m:b.Cl)(s:1<=b.An)(d:G)(h:d.M .h=A (.I 5 (Ab.c b)))(r:Lv d .h):∃g,AH d g/\jj W9 104 4 [.n e,Z Ab.c c,.p .h 0] d=if OC c b e a=L then jj W9 104 3 [.n e,Z Ab.c c,.p .h 0] g else A (.b Aa,g):=by
 have u:=AdU i;have t:=m.2.2.2.2.2 a u;have E:=(AdN.1 i).1;have p:=pg c a (by have:=n.1;omega);have k:=pi a;have l:=Z8 c b a.A3 e n m s (by omega) t.1;have o:=Ay h 2;have z:d.AL .h 0 5=A (Ab.c b):=by rw[D1 h,Af (by omega),Af B]
 have q:=(I6 r (.I 4 (Au.c a))).t h;have j:(d.V (.I 4 (Au.c a))).AL .h 0 5=A (Ab.c b):=by rw[D1 q,Af (by omega),Af B]
 have v:A9 5 (d.V (.I 4 (Au.c a))) [.p .h 0]=A (.S (Ab.c b)):=by rw[F5,j];rfl
 have f:=DW .n (Fy c a) a.A3.l;refine⟨d.V (.I 4 (Au.c a)),AH.V _ _,?_⟩;unfold OC;rw[QJ.2.2.2.2.1];generalize Ao (Fy c a=a.A3.l)=w at f⊢;generalize GX a=x at k⊢;generalize Gl c b a.A3 e=y at l⊢;cases w<;>cases x<;>cases y<;>simp only[Ad8,Aet]at f<;>simp only[↓Q,↓QD,↓H o,↓H (Fa i),↓p.H B,↓k.H B,↓l.H B,↓Lq,↓Up,↓H f,↓H j,v,QS,QB,↓reduceIte]
def nG(b:C Ab)(a:Ab)(g:Cl b)(c:a.Cl)(h:1<=a.An)(d:G)(i:d.M .h=A (.I 5 (Ab.c a))):jj W9 104 1 [Z Ab.c b,.p .h 0] d=A (.b (Gl b a a.A_ a.Av.l&&Gl b a a.Bk a.Av.l),d):=by have k:=i;have e:=Z8 b a a.A_ a.Av.l g c h (CK _) c.2.1;have f:=Z8 b a a.Bk a.Av.l g c h (CK _) c.2.2.1;rw[QJ.2.2.1];generalize Gl b a a.A_ a.Av.l=j at e⊢;generalize Gl b a a.Bk a.Av.l=l at f⊢;cases j<;>simp only[QY,e.H B,f.H B,QB, *]
def tS(d:C Ab)(a:Ab)(k:Cl d)(g:a.Cl)(n:1<=a.An):∀f b c,a.Av.l-b=f->b<=a.Av.l->c.M .h=A (.I 5 (Ab.c a))->Lv c .h->∃p,jj W9 104 2 [.n b,Z Ab.c d,.p .h 0] c=A (.b (Nt d a (a.Av.d b) b&&(Gl d a a.A_ a.Av.l&&Gl d a a.Bk a.Av.l)),p):=by
 have y:=g.1
 intro f
 induction f with
 |zero=>
  intro b c q r e m;have h:=e;have j:¬(b:K)<a.Av.l:=by omega
  refine⟨c,?_⟩;rw[QJ.2.2.2.1];simp only[QY, *];rw[nG d a k g n c e,Ad1 (by omega)];rfl
 |succ f z=>
  intro b c q r e m
  have h:=e
  have j:(b:K)<a.Av.l:=by omega
  let⟨u,s,t⟩:=Ds (b:=a.Av) (a:=b) (by omega)
  let⟨x,w,o⟩:=lV d a s k g n c e m
  rw[QJ.2.2.2.1]
  simp only[QY,h,j,reduceIte]
  rw[o,t]
  unfold Nt
  cases v:OC d a b u with
  |false=>grind
  |true=>rw[Af B,QJ.2.2.2.2.2,Aep];simp only[↓Q,↓H (Bh (a:=b) (by omega))];grind
def qW(b:C Ab)(a:Ab)(n:Cl b)(e:a.Cl):AY 104 [Z Ab.c b,.S (Ab.c a)] (.b (KA b a)):=Bu B B B (by
 have s:=e.1;have c:=pf a.A8 (by have:=e.2.2.2.1;omega);have m:(G.Aq.V (.I 5 (Ab.c a))).M .h=A (.I 5 (Ab.c a)):=B;have d:=D7 .n a.An 1;have i:=Ew .n (a.A_.l:K) 0;have g:=DW .n (a.A_.l:K) a.An;have j:=hx 1 a.An;have k:Ao (a.A_.l=0)= !Ao ((0:K)<a.A_.l):=by grind
 unfold KA;rw[QJ.1,j,k];by_cases o:1<=a.An
 .rw[A2 (show¬a.An<1 by omega)]at d⊢;let⟨l,h⟩:=tS b a n e o a.Av.l 0 (G.Aq.V (.I 5 (Ab.c a))) (by omega) (by omega) m (E9 _ _)
  rw[Ad7]at h;have p:jj W9 104 5 [Z Ab.c b,.p G.Aq.next 0] (G.Aq.V (.I 5 (Ab.c a)))=A (.b (Nt b a a.Av 0&&(Gl b a a.A_ a.Av.l&&Gl b a a.Bk a.Av.l)),l):=by rw[QJ.2.1];exact h
  generalize(Nt b a a.Av 0&&(Gl b a a.A_ a.Av.l&&Gl b a a.Bk a.Av.l))=t at p⊢;generalize Ng a.A8=f at c⊢;generalize Ao ((0:K)<a.A_.l)=q at i⊢;generalize Ao ((a.A_.l:K)=a.An)=r at g⊢;cases f<;>cases q<;>cases r<;>simp only[Ad8,Aet]at g<;>simp only[QY,c.H B,QB, *]<;>grind
 .rw[A0 (show a.An<1 by omega)]at d⊢;generalize Ng a.A8=f at c⊢;cases f<;>simp only[↓Q,↓QD,↓c.H B,↓H d,QB]<;>grind)
def PZ(a:Ab):Ah:=Ao ((12:K)<a.An)||decide ((12:K)<a.A_.l)||decide ((12:K)<a.Bk.l)
def ND:C Ab->K->Ah
 |[],_=>L
 |a::c,b=> !(Ao ((400:K)<b+a.Av.l)||PZ a)&&ND c (b+a.Av.l)
def Lc(b:C Ab):C Ab->D->Ah
 |[],_=>L
 |c::d,a=>Ao (CH b c.A8=(a:K))&&Lc b d (a+1)
def GN:BN:=[109,97,105,110]
def KF(a:C Ab):Ah:=match a[(CH a GN).n]?with|some b=>Ao (0<=CH a GN)&&Ao (b.A_.l=0)|none=>Aa
def D5(a:C Ab):K:=
 if(60:K)<a.l then 5
 else if ND a 0=Aa then 5
 else if(a.all λb=>KA a b)=Aa then 4
 else if Lc a a 0=Aa then 6
 else if KF a=Aa then 9
 else 0
def nD(b:C Ab)(l:Cl b)(f:G):jj W9 55 2 [Z Ab.c b] f=A (.n (if KF b=Aa then 9 else 0),f):=by
 have n:=l.1;have c:=SA b GN (by omega);unfold KF;rw[Jb.2.2.2.2.2.2.2.2.2.2.1];rcases Qp b GN with e|⟨i,d,e,h,_⟩;.have a:=D7 .n (CH b GN) 0;rw[e]at c a⊢;rw[A0 (by grind)]at a;unfold GN at c;simp only[Q,c.H B,H a];rw[Af];split<;>rfl
 .have a:=D7 .n (CH b GN) 0;have j:0<=(i:K):=by omega
  rw[e]at c a⊢;rw[A2 (by omega)]at a;have g:=Ew .n d.A_.l 0;have k:Ao (d.A_.l=0)= !Ao ((0:K)<d.A_.l):=by grind
  rw[AdR,h];show _=A (F.n (if(Ao (0<=(i:K))&&Ao (d.A_.l=0))=Aa then 9 else 0),f);rw[k,A0 j];generalize Ao ((0:K)<d.A_.l)=m at g⊢;unfold GN at c;cases m<;>simp only[Q,QD,c.H B,H a,H (CB h),H g,Jb.2.2.2.2.2.2.2.2.2.2.2.2.2.2,QB,reduceIte]
def uL(a:C Ab)(h:Cl a)(g:G):∀c b,a.l-b=c->b<=a.l->jj W9 55 3 [.n b,Z Ab.c a] g=A (.n (if Lc a (a.d b) b=Aa then 6 else if KF a=Aa then 9 else 0),g):=by
 have p:=h.1
 intro c
 induction c with
 |zero=>
  intro b j k;have d:¬(b:K)<a.l:=by omega
  rw[Jb.2.2.2.2.2.2.2.2.2.2.2.1];simp only[Q,QC,d];rw[nD a h,Ad1 (by omega)];rfl
 |succ c q=>
  intro b j k;have d:(b:K)<a.l:=by omega
  let⟨f,m,n⟩:=Ds (b:=a) (a:=b) (by omega)
  have e:=DW .n (CH a f.A8) b;rw[Jb.2.2.2.2.2.2.2.2.2.2.2.1];simp only[Q,QC,d];rw[Jb.2.2.2.2.2.2.2.2.2.2.2.2.1,n];unfold Lc;generalize Ao (CH a f.A8=b)=o at e⊢;cases o<;>simp only[Ad8,Aet]at e<;>simp only[Q,QD,H (CB m),(SA a f.A8 (by omega)).H B,H e,QB,reduceIte]
  rw[Jb.2.2.2.2.2.2.2.2.2.2.2.2.2.1];simp only[Q,H (Bh (a:=b) (by omega))];grind
def oG(a:C Ab)(c:Cl a)(f:G):∀d b,a.l-b=d->b<=a.l->jj W9 55 7 [.n b,Z Ab.c a] f=A (.n (if((a.d b).all λk=>KA a k)=Aa then 4 else if Lc a a 0=Aa then 6 else if KF a=Aa then 9 else 0),f):=by
 have r:=c.1
 intro d
 induction d with
 |zero=>
  intro b m n;have e:¬b<a.l:=by omega
  rw[Jb.2.2.2.2.2.2.2.1];simp only[Q,QC,e,reduceIte];have p:=uL a c f a.l 0 (by omega) (by omega);rw[Ad7]at p;rw[Jb.2.2.2.2.2.2.1,Ad1 (by omega)];grind
 |succ d s=>
  intro b m n;have e:(b:K)<a.l:=by omega
  let⟨g,j,o⟩:=Ds (b:=a) (a:=b) (by omega)
  have h:=qW a g c (c.2 g (AdU j));rw[Jb.2.2.2.2.2.2.2.1];simp only[Q,QC,e];rw[Jb.2.2.2.2.2.2.2.2.1,o,Aer];generalize KA a g=q at h⊢;cases q<;>simp only[Q,QD,H (CB j),h.H B,QB,reduceIte]
  rw[Jb.2.2.2.2.2.2.2.2.2.1];simp only[Q,H (Bh (a:=b) (by omega))];grind
def wC(c:C Ab)(m:Cl c)(k:G):∀h d f,c.l-d=h->d<=c.l->0<=f->f<=1000000->jj W9 55 11 [.n f,.n d,Z Ab.c c] k=A (.n (if ND (c.d d) f=Aa then 5 else if(c.all λu=>KA c u)=Aa then 4 else if Lc c c 0=Aa then 6 else if KF c=Aa then 9 else 0),k):=by
 have J:=m.1
 intro h
 induction h with
 |zero=>
  intro d f v w y z;have j:¬(d:K)<c.l:=by omega
  rw[Jb.2.2.2.1];simp only[Q,QC,j,reduceIte];have t:=oG c m k c.l 0 (by omega) (by omega);rw[Ad7]at t;rw[Jb.2.2.1,Ad1 (by omega)];exact t
 |succ h N=>
  intro d f v w y z;have j:(d:K)<c.l:=by omega
  let⟨e,n,x⟩:=Ds (b:=c) (a:=d) (by omega)
  have M:=(m.2 e (AdU n)).1;have s:=F2 (a:=f) (b:=e.Av.l) (by omega) (by omega);have g:=Ew .n (f+e.Av.l) 400;have p:=Ew .n e.An 12;have q:=Ew .n e.A_.l 12;have r:=Ew .n e.Bk.l 12;rw[Jb.2.2.2.1];simp only[Q,QC,j];rw[Jb.2.2.2.2.1,x];unfold ND PZ;by_cases o:400<f+e.Av.l;.rw[A0 o]at g⊢;simp only[Q,QD,H (CB n),H s,H g,QB,reduceIte]
  rw[A2 o]at g⊢;generalize Ao (12<e.An)=E at p⊢;generalize Ao ((12:K)<e.A_.l)=F at q⊢;generalize Ao ((12:K)<e.Bk.l)=I at r⊢;cases E<;>cases F<;>cases I<;>simp only[Q,QD,H (CB n),H s,H g,H p,H q,H r,QB,reduceIte]
  rw[Jb.2.2.2.2.2.1];simp only[Q,H (Bh (a:=d) (by omega))];grind
def ga(a:C _)(d:Cl a):AY 55 [Z Ab.c a] (.n (D5 a)):=Bu B B B ⟨G.Aq,by
 have e:=wC a d G.Aq a.l 0 0 (by omega) (by omega) (by omega) (by omega);rw[Ad7]at e;have c:=Ew .n a.l 60;unfold D5;rw[Jb.1];by_cases b:(60:K)<a.l;.rw[A0 b]at c;rw[Af b];simp only[Q,H c]
 .rw[A2 b]at c;rw[Ad b];simp only[Q,H c];rw[Jb.2.1];grind⟩
