/- Part of the proof. -/
import Derived.Test.YtbmnfifnenajjaaGreatNbe
set_option linter.all false
noncomputable section
open Option renaming some->A,none->O,getD->Option.g,bind->Option.b
open _root_ renaming rfl->B,List->C,Nat->D,Int->K,if_neg->Ad,if_pos->Af,Option->Ae,Bool->Ah,cond->Aj,decide_eq_true->A0,decide_eq_false->A2,absurd->BF
open Bool renaming true->L,false->Aa
open Decidable renaming decide->Ao
open Nat renaming beq->AW,ble->BX
open List renaming length->List.l,map->List.m,take->List.t,drop->List.d,flatMap->List.f
open Go.IntKind renaming i64->Go.IntKind.n
open Array renaming toList->Array.l
open Eq renaming trans->Eq.t,symm->Eq.s
open Or renaming inl->Or.i,inr->Or.j
open Int renaming toNat->Int.n
namespace Go.Proofs.YtbmnfifnenajjaaGreat
open Go.Fg
structure RY(i:C N)(j:C K)(k:G)(g e:T)(l:F)(h:D)(f c:F)(b:G):Prop where
 oc:Aw b f N.c 2 (Cf (i.t h) j).1
 oo:Aw b c Be 1 (Cf (i.t h) j).2
 gq:b.M g=A (.I 2 [.m e,c])
 gr:b.M e=A (.Bn (Ee 0 (Cf (i.t h) j).2) (Cf (i.t h) j).2.l)
 lq:Lv b g
 lr:Lv b e
 aq:As c g
 ar:As c e
 cq:As f g
 cr:As f e
 d:Cn f c
 BO:∀a,Lv k a->a≠g->a≠e->As l a->b.M a=k.M a/\Lv b a/\As c a/\As f a
def l3(a:G)(d:N):∃c b,a.next=c/\a.V (.I 2 [.i .u8 0,.n 0])=(a.V (.I 2 [.i .u8 0,.n 0]))/\AX 2 (a.V (.I 2 [.i .u8 0,.n 0])) [.p a.next 0,.S (N.c d)]=A (AC,b)/\AH a b/\b.M c=A (.I 2 (N.c d))/\Lv b c/\¬Lv a c:=
 ⟨_,_,B,B,ET B B,AH.V _ _,P,P,EX _⟩
variable{J:F}{b:G}{g:T}{j k:F}
def cF{e:C _}{u:C K}{q:G}{c:T}{h:D}(xi:e.l<=800000)(xh:h<e.l){v:T}{o:N}{p:C N}{n:C K}(xg:p.l=h)(xa:(Cf (e.t (h+1)) u).1=p++[o])(R:(Cf (e.t (h+1)) u).2=n)(U:Aw b j N.c 2 p)(V:Aw b k Be 1 n)(S:b.M c=A (.I 2 [.m g,k]))(xc:b.M g=A (.Bn (Ee 0 n) n.l))(t:Lv b c)(I:Lv b g)(M:As k c)(Q:As k g)(r:As j c)(z:As j g)(X:Cn j k)(xb:b.M v=A (.I 2 (N.c o)))(xm:∀a,Lv q a->a≠c->a≠g->As J a->b.M a=q.M a/\Lv b a/\As k a/\As j a):∃l E,jj W9 180 4 [j,.p v 0,.n h,.n e.l,Z N.c e,.p c 0] b=jj W9 180 2 [.n e.l,Z N.c e,.p c 0,.n (h+1:D),l] E/\RY e u q c g J (h+1) l k E:=by
 let⟨l,s,xk,xl,Y,W⟩:=FJ (f:=N.c) (w:=2) (b:=o) (o:=.S (N.c o)) (h:=16) (λ_=>B) B B U (DG (by omega))
 have m:∀a,Lv b a->As j a->s.M a=b.M a/\Lv s a/\As l a:=by grind
 refine⟨l,s,?_,?_⟩;.rw[LG.2.2.2.2.2.1];simp only[QY,LG.2.2.2.2.1,H (Bh (a:=h) (by omega)), *]
 .exact{
  oc:=by grind
  oo:=by rw[R];exact V.Ar P
  gq:=(m c t r).1.t S
  gr:=by grind
  lq:=(m c t r).2.1
  lr:=(m g I z).2.1
  aq:=M
  ar:=Q
  cq:=(m c t r).2.2
  cr:=(m g I z).2.2
  d:=(Cn.of P).symm
  BO:=λa xj xd xe xf=>by grind}
def Aas{j:C N}{m:C K}{M:G}{k:T}{Y:F}(xS:k≠g)(yr:m.l+j.l<=800000){l:D}{c:N}(xm:j[l]? =A c){xr X:F}{xv:G}(e:RY j m M k g Y l xr X xv):∃E p xO,jj W9 180 2 [.n j.l,Z N.c j,.p k 0,.n l,xr] xv=jj W9 180 2 [.n j.l,Z N.c j,.p k 0,.n (l+1:D),E] xO/\RY j m M k g Y (l+1) E p xO:=by
 have xl:l<j.l:=by grind
 have xs:=Cm xl;have S:=cg c (j.t l) m;rw[FL xm]at S;have xR:=cf (j.t l) m;have xQ:=TF (j.t l) m;rw[Aef]at xR xQ;have xX:=e.oc;have xB:=e.oo;have xM:=e.gr;have u:(Cf (j.t (l+1)) m).1=(Cf (j.t l) m).1++[(Hx c (Cf (j.t l) m).2).1]:=by grind
 have I:(Cf (j.t (l+1)) m).2=(Hx c (Cf (j.t l) m).2).2:=by grind
 generalize(Cf (j.t l) m).1=x4 at xX u xQ;generalize(Cf (j.t l) m).2=d at xB xM u I xR;let⟨h,n,xw,_,xH,z,xd,yg,xU⟩:=l3 xv c
 have xf:=(z.M e.lq).t e.gq;have xk:=(z.M e.lr).t xM;have xi:=z.lv e.lq;have xj:=z.lv e.lr;have xn:=xX.ext z;have xo:=xB.ext z;have xE:n.Ap h 0=A (.i .u8 c.Ak):=Ay xd 0;have x0:n.Ap h 1=A (.n c.n):=Ay xd 1;have x1:n.Ap k 0=A (.m g):=Ay xf 0;have xZ:k≠h:=by grind
 have xD:g≠h:=by grind
 have xY:∀a,Lv M a->a≠k->a≠g->As Y a->n.M a=M.M a/\Lv n a/\As X a/\As xr a/\a≠h:=λa i xb t xc=>by have:=e.BO a i xb t xc;exact⟨(z.M this.2.1).t this.1,z.lv this.2.1,this.2.2.1,this.2.2.2,λS=>xU (S▸this.2.1)⟩
 by_cases xg:c.Ak=4
 .have xy:Hx c d=(⟨c.Ak,(d.idxOf c.n)⟩,if d.idxOf c.n=d.l then d++[c.n]else d):=Af xg;rw[xy]at u I;have xh:=tv xk c.n;by_cases xt:d.idxOf c.n=d.l
  .rw[Af xt]at xh;have I:(Cf (j.t (l+1)) m).2=d++[c.n]:=by grind
   have u:(Cf (j.t (l+1)) m).1=x4++[⟨c.Ak,d.l⟩]:=by grind
   let⟨p,q,yf,xC,R,t⟩:=FJ (f:=Be) (w:=1) (b:=c.n) (o:=.n c.n) (h:=8) (λ_=>B) B B xo (DG (by omega))
   have xL:=(R.M xi e.aq).t xf;have xe:=(R.M yg P).t xd;have yh:Bv .Cq [.p h 1] q (.n c.n)=L:=Ij xe B;have yi:Bv .Cq [.p k 0] q (.m g)=L:=Ij xL B;have xT:=uj ((R.M xj e.ar).t xk) xt;have xN:(q.set g (.Bn (Ee 0 d++[⟨.n c.n,.n 0,d.l⟩]) (d.l+1))).M g=A (.Bn (Ee 0 d++[⟨.n c.n,.n 0,d.l⟩]) (d.l+1)):=by rw[AN,Af B]
   have xz:∀a,a≠g->(q.set g (.Bn (Ee 0 d++[⟨.n c.n,.n 0,d.l⟩]) (d.l+1))).M a=q.M a:=λa i=>by rw[AN,Ad i]
   have yj:∀a,Lv (q.set g (.Bn (Ee 0 d++[⟨.n c.n,.n 0,d.l⟩]) (d.l+1))) a=Lv q a:=by grind
   generalize q.set g (.Bn (Ee 0 d++[⟨.n c.n,.n 0,d.l⟩]) (d.l+1))=r at xT xN xz yj;have xJ:=nQ xN;have yc:(r.set g (.Bn (Ee 0 (d++[c.n])) (d++[c.n]).l)).M g=A (.Bn (Ee 0 (d++[c.n])) (d++[c.n]).l):=by rw[AN,Af B]
   have xA:∀a,a≠g->(r.set g (.Bn (Ee 0 (d++[c.n])) (d++[c.n]).l)).M a=r.M a:=λa i=>by rw[AN,Ad i]
   have yk:∀a,Lv (r.set g (.Bn (Ee 0 (d++[c.n])) (d++[c.n]).l)) a=Lv r a:=by grind
   generalize r.set g (.Bn (Ee 0 (d++[c.n])) (d++[c.n]).l)=U at xJ yc xA yk;have ya:=(xA k xS).t ((xz k xS).t xL);have xI:=Gx (d:=1) (a:=p) ya (by omega) (by omega) (Cr xC).1 (Cr xC).2;have ye:Dg 1 [p] [.m g,X]=[.m g,p]:=B;rw[ye]at xI;have yb:(U.set k (.I 2 [.m g,p])).M k=A (.I 2 [.m g,p]):=by rw[AN,Af B]
   have xW:∀a,a≠k->(U.set k (.I 2 [.m g,p])).M a=U.M a:=λa i=>by rw[AN,Ad i]
   have yl:∀a,Lv (U.set k (.I 2 [.m g,p])) a=Lv U a:=by grind
   generalize U.set k (.I 2 [.m g,p])=V at xI yb xW yl;have x9:=(xW h xZ.symm).t ((xA h xD.symm).t ((xz h xD.symm).t xe));have xG:=Gx (d:=1) (a:=.n d.l) x9 (by omega) (by omega) B B;have xx:Dg 1 [.n d.l] (N.c c)=N.c ⟨c.Ak,d.l⟩:=B;rw[xx]at xG;have xK:(V.set h (.I 2 (N.c ⟨c.Ak,d.l⟩))).M h=A (.I 2 (N.c ⟨c.Ak,d.l⟩)):=by rw[AN,Af B]
   have yn:∀a,a≠h->(V.set h (.I 2 (N.c ⟨c.Ak,d.l⟩))).M a=V.M a:=λa i=>by rw[AN,Ad i]
   have ym:∀a,Lv (V.set h (.I 2 (N.c ⟨c.Ak,d.l⟩))) a=Lv V a:=by grind
   generalize V.set h (.I 2 (N.c ⟨c.Ak,d.l⟩))=xP at xG xK yn ym;have xq:∀a,Lv xP a=Lv q a:=by grind
   have x6:∀a,a≠k->a≠g->a≠h->xP.M a=q.M a:=by grind
   have x7:=t k xi e.aq;have x8:=t g xj e.ar;have yo:As p h:=by grind
   have xV:∀{x2:F}{a:T}{x3:T},As x2 x3->¬As x2 a->a≠x3:=by grind
   let⟨E,yd,yp,x5⟩:=cF (q:=M) (J:=Y) (v:=h) (by omega) xl (by omega) u I
    (xn.Ar λa i s=>⟨(x6 a (xV e.cq s) (xV e.cr s) P).t (R.M i (e.d.r s)),by rw[xq];exact R.lv i (e.d.r s)⟩)
    (xC.Ar P)
    P P (by rw[xq];exact R.lv xi e.aq) (by rw[xq];exact R.lv xj e.ar) x7 x8 e.cq e.cr (Cn.of λa s=>t a (xn.Cz s) (e.d.r s)) xK P
   refine⟨E,p,yd,?_,x5⟩;rw[LG.2.2.1];simp only[↓Q,↓QD,↓QV,↓QT,xs,LG.2.2.2.1,↓H (HZ xm),↓H xH,xw,↓H xE,xg,↓H x1,↓H x0,↓H xh,QB,↓H (Ay xf 1:n.Ap k 1=A X),↓H (Cp xo),↓yf,yh,yi,↓Lq,↓H xT,↓H xJ,↓H xI,LG.2.2.2.2.2.2,↓H xG];grind
  .rw[Ad xt]at xh;have I:(Cf (j.t (l+1)) m).2=d:=by grind
   generalize yq:d.idxOf c.n=J at u xh;have xF:=Gx (d:=1) (a:=.n J) xd (by omega) (by omega) B B;have xx:Dg 1 [.n J] (N.c c)=N.c ⟨c.Ak,J⟩:=B;rw[xx]at xF;have xa:∀a,a≠h->(n.set h (.I 2 (N.c ⟨c.Ak,J⟩))).M a=n.M a:=λa i=>by rw[AN,Ad i]
   have xe:(n.set h (.I 2 (N.c ⟨c.Ak,J⟩))).M h=A (.I 2 (N.c ⟨c.Ak,J⟩)):=by rw[AN,Af B]
   have W:∀a,Lv (n.set h (.I 2 (N.c ⟨c.Ak,J⟩))) a=Lv n a:=by grind
   generalize n.set h (.I 2 (N.c ⟨c.Ak,J⟩))=q at xF xa xe W;let⟨E,r,xu,xp⟩:=cF (q:=M) (J:=Y) (v:=h) (by omega) xl (by omega) u I (xn.Ar λa i s=>⟨xa a (λS=>by grind),by rw[W];exact i⟩) (xo.Ar λa i s=>⟨xa a (λS=>by subst S;exact xU (xB.Cz s)),by rw[W];exact i⟩)
    ((xa k xZ).t xf) ((xa g xD).t xk) (by rw[W];exact xi) (by rw[W];exact xj) e.aq e.ar e.cq e.cr e.d xe (λa i xb t xc=>by have:=xY a i xb t xc;exact⟨(xa a this.2.2.2.2).t this.1,by rw[W];exact this.2.1,this.2.2.1,this.2.2.2.1⟩)
   refine⟨E,X,r,?_,xp⟩;rw[LG.2.2.1];simp only[↓Q,↓QD,↓QV,↓QT,xs,LG.2.2.2.1,↓H (HZ xm),↓H xH,xw,↓H xE,xg,↓H x1,↓H x0,↓H xh,QB,LG.2.2.2.2.2.2,↓H xF];exact xu
 .have xy:Hx c d=(c,d):=Ad xg;rw[xy]at u I;let⟨E,r,xu,xp⟩:=cF (q:=M) (J:=Y) (v:=h) (by omega) xl (by omega) u I xn xo xf xk xi xj e.aq e.ar e.cq e.cr e.d xd (λa i xb t xc=>by have:=xY a i xb t xc;exact⟨this.1,this.2.1,this.2.2.1,this.2.2.2.1⟩)
  refine⟨E,X,r,?_,xp⟩;rw[LG.2.2.1];simp only[↓Q,↓QD,↓QV,↓QT,AdM,xs,LG.2.2.2.1,↓H (HZ xm),↓H xH,xw,↓H xE,xg];exact xu
variable{f:G}
def fP(b:C N)(l:C K)(S:l.l+b.l<=800000){e:T}(V:e≠g)(H:f.M e=A (.I 2 [.m g,j]))(J:f.M g=A (.Bn (Ee 0 l) l.l))(X:Lv f e)(Y:Lv f g)(xa:Aw f j Be 1 l)(w:As j e)(x:As j g):
  ∃i k a,W9 (pos 180) [.p e 0,Z N.c b] f=A (i,a)/\Aw a i N.c 2 (Cf b l).1/\Aw a k Be 1 (Cf b l).2/\a.M e=A (.I 2 [.m g,k])/\a.M g=A (.Bn (Ee 0 (Cf b l).2) (Cf b l).2.l)/\Lv a e/\Lv a g/\As k e/\As k g/\As i e/\As i g/\Cn i k/\
   (∀h,Lv f h->h≠e->h≠g->As j h->a.M h=f.M h/\Lv a h/\As k h/\As i h):=by
 have v:RY b l f e g j 0 .sn j f:={oc:=Aw.sn f,oo:=xa,gq:=H,gr:=J,lq:=X,lr:=Y,aq:=w,ar:=x,cq:=Cg _,cr:=Cg _,d:=(Ku _).symm,BO:=λh U _ _ P=>⟨B,U,P,Cg h⟩}
 let⟨⟨i,k⟩,a,p,c⟩:=Dh (h:=b.l) (f:=λo m a=>jj W9 180 2 [.n b.l,Z N.c b,.p e 0,.n o,m.1] a) (g:=λo m a=>RY b l f e g j o m.1 m.2 a)
  (λo m a R c=>by
   let⟨xb,W⟩:=Bb R
   let⟨y,k,M,E,u⟩:=Aas V S W c
   exact⟨(y,k),M,E,u⟩) (b:=(.sn,j)) v
 have p:jj W9 180 2 [.n b.l,Z N.c b,.p e 0,.n 0,.sn] f=jj W9 180 2 [.n b.l,Z N.c b,.p e 0,.n b.l,i] a:=p
 have c:RY b _ f e g j _ i k a:=c
 have r:=c.oc
 have t:=c.oo
 have q:=c.gr
 rw[Gz]at r t q
 have z:=CA b.l
 refine⟨i,_,a,AZ B B ?_,r,t,c.gq,q,c.lq,c.lr,c.aq,c.ar,c.cq,c.cr,c.d,c.BO⟩
 rw[LG.1]
 simp only[↓Q]
 rw[p,LG.2.2.1]
 simp only[↓Q,↓QT,AdM,z,LG.2.1]
structure TZ(n:C N)(k:G)(e d j:T)(f:F)(m:D)(l:C (C N))(g:C K)(i:C F)(h c:F)(b:G):Prop where
 P:L8 n l j f h i b
 ac:l.l=m
 oo:Aw b c Be 1 g
 gq:b.M e=A (.I 2 [.m d,c])
 gr:b.M d=A (.Bn (Ee 0 g) g.l)
 lq:Lv b e
 lr:Lv b d
 oq:As c e
 bL:As c d
 L1:∀a,Lj j f h i a->a≠e/\a≠d/\As c a
 BO:∀a,Lv k a->a≠e->a≠d->b.M a=k.M a/\Lv b a/\¬Lj j f h i a/\As c a
variable{l:T}{y:F}
def Aaq{d:C AE}(xr:EW d){xe:C N}{E:G}{r m xd:T}(xs:l≠r){t:F}{e:D}{J:C (C N)}{k:C K}{u:C F}{xD:F}{p:G}(b:TZ xe E l r m t e J k u y xD p){g:K}{h:F}(xX:k.l<=400){j:K}(X:k[e]? =A j){s:AE}(xt:Iq d j=A s):∃xM z q U,jj W9 123 2 [.pi [Z AE.c d,.n g,h],.p l 0,.n e,.p m 0,.p xd 0] p=jj W9 123 2 [.pi [Z AE.c d,.n g,h],.p l 0,.n (e+1:D),.p m 0,.p xd 0] U/\TZ xe E l r m t (e+1) (J++[(Cf s.I k).1]) (Cf s.I k).2 xM z q U:=by
 let⟨xZ,xq,W⟩:=Mt xt
 have xp:e<k.l:=by grind
 have xY:=(xr.at W).1;have v:=b.P;let⟨Q,q,V,xv,xH,xI,xm,xn,xA,xB,xg,xh,xQ,xR,xV,xc⟩:=fP s.I k (by omega) xs b.gq b.gr b.lq b.lr b.oo b.oq b.bL
 have x:∀a,Lj m t y u a->V.M a=p.M a/\Lv V a/\As q a/\As Q a:=λa c=>xc a (v.lv c) (b.L1 a c).1 (b.L1 a c).2.1 (b.L1 a c).2.2;have I:=v.Ar λa c=>⟨(x a c).1,(x a c).2.1⟩;let⟨z,xW,xo,xw,xL,xf,n⟩:=I.add xH (λa c=>(x a c).2.2.2) (by have:=v.all.A7;have:=b.ac;omega)
 have S:=n l xA (λc=>(b.L1 l c).1 B);have R:=n r xB (λc=>(b.L1 r c).2.1 B);have xb:∀a,¬As q a->¬Lj m t y u a:=by grind
 refine⟨u++[Q],z,q,xo,?_,?_⟩
 .have xk:=Cm xp;have xy:=b.gq;have xz:=Cp b.oo;let⟨xj,M⟩:=CD (f:=Be) (w:=1) (λ_=>B) b.oo X
  have xK:AM p [.p xj (e*1)]=A (.n j):=by have:=M.Ap (f:=Be) (λ_=>B) X (b:=0) (by grind);exact this
  have xJ:=I.gx;have xu:AR 2 [Z AE.c d,.n j]=A (.pi (AE.c s)):=by rw[xq];exact M2 W
  have xC:Dr [.pi [Z AE.c d,.n g,h]]=A (.pi [Z AE.c d,.n g,h]):=B;have xl:Bl 0 [.pi [Z AE.c d,.n g,h]]=A (.pi [Z AE.c d,.n g,h]):=B;have xx:AM p [.pi [Z AE.c d,.n g,h]]=A (Z AE.c d):=B;rw[SQ.2.2.1];simp only[QY,xC,xl,xx,xy,xz,xk,SQ.2.2.2.1,H M.ia,xK,xu,xv,xJ,xw,xL,SQ.2.2.2.2,Bh (a:=e) (by omega)]
 .exact{
  P:=xf
  ac:=by rw[AdY,b.ac];rfl
  oo:=xI.Ar λa c j=>⟨(n a c (xb a j)).1,(n a c (xb a j)).2.1⟩
  gq:=S.1.t xm
  gr:=R.1.t xn
  lq:=S.2.1
  lr:=R.2.1
  oq:=xg
  bL:=xh
  L1:=λa c=>by grind
  BO:=λa c Y xa=>by
   let⟨x0,xE,xF,xG⟩:=b.BO a c Y xa
   let⟨xN,xi,xO,xP⟩:=xc a xE Y xa xG
   let⟨xS,xT,xU⟩:=n a xi xF
   grind}
def ty{d:C AE}(I:EW d)(xb:Vd d){v:C N}{r:G}{n t w h:T}(xa:n≠t){x:K}(S:r.M h=A (.I 2 [.sn,.sn]))(xd:Lv r h)(xe:h≠n)(xf:h≠t):∀i a c b m f l g,d.l<a+i->OZ d b->TZ v r n t w k a c b m f l g->∃q o,jj W9 123 2 [.pi [Z AE.c d,.n x,y],.p n 0,.n a,.p w 0,.p h 0] g=A (q,o)/\Fz 4 o q (.S (Ci.c ⟨v,IA d i a c b⟩)):=by
 have R:∀a c b m f l g,¬a<b.l->TZ v r n t w k a c b m f l g->∃q o,jj W9 123 2 [.pi [Z AE.c d,.n x,y],.p n 0,.n a,.p w 0,.p h 0] g=A (q,o)/\Fz 4 o q (.S (Ci.c ⟨v,c⟩)):=by
  intro a c b m f l g xl e;let⟨Q,xr,xs,xj⟩:=e.BO h xd xe xf
  have xk:¬a<(b.l:K):=by omega
  have xp:=e.gq;have xq:=Cp e.oo;have xv:=e.P.gx;have P:BU [k,f]=L:=by rw[DJ];simp[(Cr e.P.ov).2,(Cr e.P.os).2]
  have xw:=Gb (Q.t S) B P;have xu:(g.set h (.I 2 [k,f])).AL h 0 2=A [k,f]:=BB (by rw[AN,Af B]);have M:=e.P.Ar (g:=g.set h (.I 2 [k,f])) λxt Y=>⟨by rw[AN,Ad (λH=>by grind)],by rw[K9];exact e.P.lv Y⟩;refine⟨.S [k,f],_,?_,M.fz⟩;rw[SQ.2.2.1];simp only[QY,SQ.2.1, *]
 intro i
 induction i with
 |zero=>intro a c b m f l g W p e;have:=p.le;exact R a c b m f l g (by omega) e
 |succ i xc=>
  intro a c b m f l g W p e
  have xn:=p.le
  have:=I.1
  cases s:b[a]?with
  |none=>
   have z:IA d (i+1) a c b=c:=by show(match b[a]?with|none=>c|some j=>_)=c;rw[s]
   rw[z];grind
  |some j=>
   let⟨u,E⟩:=p.2 j (AdU s)
   have V:I0 d j=u.I:=by unfold I0;rw[E]
   have z:IA d (i+1) a c b=IA d i (a+1) (c++[(Cf u.I b).1]) (Cf u.I b).2:=by show(match b[a]?with|none=>c|some j=>IA d i (a+1) (c++[(Cf (I0 d j) b).1]) (Cf (I0 d j) b).2)=_;rw[s];show IA d i (a+1) (c++[(Cf (I0 d j) b).1]) (Cf (I0 d j) b).2=_;rw[V]
   let⟨xi,xh,xg,U,H,J⟩:=Aaq (xd:=h) (g:=x) (h:=y) I xa e (by omega) s E
   rw[z,H];let⟨xo,xm,X⟩:=Mt E
   exact xc (a+1) _ _ xi xh xg U (by omega) (VI _ p (xb u (AdU X))) J
def pb(k:C AE)(x:EW k)(xj:Vd k)(o:K)(p:F)(i:C N)(h:∀xw∈i,Kd k xw)(xE:i.l<=700000):AY 123 [.pi [Z AE.c k,.n o,p],Z N.c i] (.S (Ci.c (GC k i))):=by
 generalize j:((G.Aq.V (.I 2 [.sn,.sn])).V (.Bn [] 0)).V (.I 2 [.m (.o .h),.sn])=f;have xc:f.M .h=A (.I 2 [.sn,.sn]):=by rw[<-j];rfl
 have xd:f.M (.o .h)=A (.Bn [] 0):=by rw[<-j];rfl
 have xe:f.M (.i .h)=A (.I 2 [.m (.o .h),.sn]):=by rw[<-j];rfl
 have xm:Lv f .h:=by rw[<-j];exact((E9 G.Aq _).V _).V _
 have xn:Lv f (.o .h):=by rw[<-j];exact(E9 (G.Aq.V _) _).V _
 have xo:Lv f (.i .h):=by rw[<-j];exact E9 _ _
 have xy:∀(g:F->G->R),bl (.p (G.Aq).next 0) ((G.Aq).V (.I 2 [.sn,.sn])) g=g (.p .h 0) (G.Aq.V (.I 2 [.sn,.sn])):=λ_=>B;have xA:∀(g:F->G->R),bl (.m (G.Aq.V (.I 2 [.sn,.sn])).next) ((G.Aq.V (.I 2 [.sn,.sn])).V (.Bn [] 0)) g=g (.m (.o .h)) ((G.Aq.V (.I 2 [.sn,.sn])).V (.Bn [] 0)):=λ_=>B;have xa:Cb [.mn,.sn] [(0,1)] [.m (.o .h)]=A (.S [.m (.o .h),.sn]):=B;have xz:∀(g:F->G->R),bl (.p ((G.Aq.V (.I 2 [.sn,.sn])).V (.Bn [] 0)).next 0) (((G.Aq.V (.I 2 [.sn,.sn])).V (.Bn [] 0)).V (.I (Bq (F.I (.S [.m (.o .h),.sn]))) (F.I (.S [.m (.o .h),.sn])))) g=g (.p (.i .h) 0) f:=λg=>by rw[<-j];rfl
 have y:(T.i .h)≠.o .h:=by grind
 let⟨b,Q,a,xl,m,xs,xf,xg,E,I,xt,xu,xB,xC,xD,xr⟩:=fP i [] (by grind) y xe xd xo xn (Aw.sn f) (Cg _) (Cg _)
 have e:AH a (a.V (.I 2 [b,.sn])):=AH.V _ _;have q:(a.V (.I 2 [b,.sn])).M a.next=A (.I 2 [b,.sn]):=by grind
 have s:Lv (a.V (.I 2 [b,.sn])) a.next:=by grind
 have X:BU [b,.sn]=L:=by rw[DJ];simp[(Cr m).2,show Fl .sn=L from B]
 have t:AX 2 (a.V (.I 2 [.sn,.sn])) [.p a.next 0,.S [b,.sn]]=A (AC,a.V (.I 2 [b,.sn])):=ET B X;have V:∀(z:F->G->R),bl (.p a.next 0) (a.V (.I 2 [.sn,.sn])) z=z (.p a.next 0) (a.V (.I 2 [.sn,.sn])):=λ_=>B;have M:¬Lv a a.next:=EX _;generalize xk:a.next=n at q s t V M;generalize a.V (.I 2 [b,.sn])=l at e q s t;have xx:∀c,Lj n b .sn [] c->c=n\/¬As b c:=λc h=>by
  rcases h with rfl|h|⟨xv,r,h⟩;.grind
  .exact BF (Cg c) h
  .grind
 have W:TZ (Cf i []).1 f (.i .h) (.o .h) n b 0 [] (Cf i []).2 [] .sn Q l:={
  P:={
   ov:=m.ext e,os:=Aw.sn l,all:=.nil,gx:=q,lx:=s
   IC:=λxv r=>by
    rcases r with rfl|r;.exact⟨AdS λJ=>M (m.Cz J),Ku _⟩
    .grind
   sx:=Cg _}
  ac:=B
  oo:=xs.ext e
  gq:=(e.M E).t xf
  gr:=(e.M I).t xg
  lq:=e.lv E
  lr:=e.lv I
  oq:=xt
  bL:=xu
  L1:=λc h=>by grind
  BO:=λc h xh xi=>by
   let⟨xp,S,xq,xG⟩:=xr c h xh xi (Cg c)
   refine⟨(e.M S).t xp,e.lv S,λw=> ?_,xq⟩;rcases xx c w with rfl|w;.grind
   .grind}
 let⟨U,v,u,xb⟩:=ty (x:=o) (y:=p) x xj y (h:=.h) xc xm (by grind) (by grind) 401 0 [] (Cf i []).2 [] .sn Q l (by have:=x.1;omega) (VI i ⟨Afp,λJ xF=>by grind⟩ h) W
 have u:jj W9 123 2 [.pi [Z AE.c k,.n o,p],.p (.i .h) 0,.n 0,.p n 0,.p .h 0] l=A (U,v):=u;refine Fz.Oc B B (f:=U) (d:=v) (c:=4) ?_ xb (by omega);have Y:Cb [.sn,.sn] [(0,1)] [b]=A (.S [b,.sn]):=by rcases m with⟨rfl,_⟩|⟨_,_,rfl,_⟩<;>rfl
 rw[SQ.1,xy,xA];simp only[↓H xa];rw[xz];simp only[↓H xl,↓H Y,xk,↓V,↓H t];grind
structure Iw(t:T->Prop)(b c:G):Prop where
 p:FC b c
 o:∀a,¬t a->c.M a=b.M a
 l:∀a,Lv c a=Lv b a
theorem Iw.refl(t:T->Prop)(a:G):Iw t a a:=⟨FC.refl a,P,P⟩
theorem Iw.AI{t:T->Prop}{d e f:G}(b:Iw t d e)(c:Iw t e f):Iw t d f:=⟨b.p.AI c.p,λa g=>(c.o a g).t (b.o a g),λa=>(c.l a).t (b.l a)⟩
theorem Iw.rc{t:T->Prop}{a:G}{b:T}{d:D}{c:C F}(f:t b)(e:DR (a.M b)=A (d,c)):Iw t a (a.set b (.rc d c)):=
 ⟨FC.rc e,λh g=>by rw[AN,Ad P],P⟩
def Fs(t:T->Prop)(e:D)(c:G)(g d:F):Prop:=∀f a,FC c a->∃b,Df (f+e) a g=A (d,b)/\Iw t a b
def BS(t:T->Prop)(e:D)(c:G)(g d:C F):Prop:=∀f a,FC c a->∃b,CT (Df (f+e)) a g=A (d,b)/\Iw t a b
section
variable{t:T->Prop}
theorem Fs.im{c:G}{a:F}(d:Im a=L):Fs t 1 c a a:=λe b _=>⟨b,UA e b d,Iw.refl t _⟩
theorem Fs.sn(a:G):Fs t 1 a .sn (.CV []):=λc b _=>⟨b,B,Iw.refl t _⟩
theorem Fs.up{a b:D}{c:G}{e d:F}(g:Fs t a c e d)(m:a<=b):Fs t b c e d:=λh f i=>by
 let⟨j,k,l⟩:=g (h+(b-a)) f i
 grind
theorem BS.nil(c:D)(a:G):BS t c a [] []:=λd b _=>⟨b,B,Iw.refl t _⟩
theorem BS.cons{b:D}{a:G}{h d:F}{i e:C F}(n:Fs t b a h d)(o:BS t b a i e):BS t b a (h::i) (d::e):=λf p g=>by
 let⟨q,k,c⟩:=n f _ g
 let⟨j,l,m⟩:=o f _ (g.AI c.p)
 exact⟨j,by rw[Qw,k,AdP,l];rfl,c.AI m⟩
theorem BS.Es{b:D}{a:G}{h c i d:C F}(o:BS t b a h c)(q:BS t b a i d):BS t b a (h++i) (c++d):=by
 intro e j f;let⟨k,m,g⟩:=o e j f
 let⟨l,n,p⟩:=q e k (f.AI g.p)
 refine⟨l,?_,g.AI p⟩;rw[Z5,m,AdP,n];rfl
theorem BS.Oh{c:G}:∀{a:C _},a.all Im=L->BS t 1 c a a
 |[],_=>BS.nil 1 c
 |d::a,b=>by rw[Aer,AdO]at b;exact BS.cons (Fs.im b.1) (BS.Oh b.2)
theorem BS.ZZ{h i:Type}{b:D}{a:G}{d:i->C F}{e:h->C F}{f:C h}{g:C i}(c:FN (λk l=>BS t b a (d k) (e l)) g f):BS t b a (g.f d) (f.f e):=by
 induction c with
 |nil=>exact BS.nil b a
 |cons c m j=>rw[Aeh,Aeh];exact BS.Es c j
theorem Fs.Z{h:D}{i:G}{d:T}{f a w c b:D}{u m e:C F}(H:t d)(z:DR (i.M d)=A (b,e))(E:f+a*c<=b)(I:(e.d f).t (a*c)=u)(y:BS t h i u m):Fs t (h+1) i (.Z d f a w c) (.CV (Iy c a m)):=by
 intro k g r;by_cases n:a=0;.subst n;exact⟨g,B,Iw.refl t _⟩
 have o:=r.1 d b e z;let⟨v,x,s⟩:=y k g r
 refine⟨v.set d (.rc b e),?_,s.AI (Iw.rc H (s.p.1 d b e o))⟩;show Aj (AW a 0) _ (match DR (g.M d)with|some (b,q)=>Aj (BX (f+a*c) b) (match CT (Df (k+h)) g ((q.d f).t (a*c))with|some (l,j)=>A (F.CV (Iy c a l),j.set d (.rc b q))|none=>O) O|none=>O)=_;rw[Gm n,o];show Aj (BX (f+a*c) b) (match CT (Df (k+h)) g ((e.d f).t (a*c))with|some (l,j)=>A (F.CV (Iy c a l),j.set d (.rc b e))|none=>O) O=_;rw[AdX E,I,x];rfl
theorem Fs.M0{q r:Type}{k:D}{e:G}{f:T}{j d:D}{b:C r}{m:C q}{g:r->C F}{h:q->C F}(v:t f)(x:∀a,(g a).l=d)(u:∀a,(h a).l=d)(s:DR (e.M f)=A (b.l*d,b.f g))(i:FN (λa y=>BS t k e (g a) (h y)) b m):Fs t (k+1) e (.Z f 0 b.l j d) (YtbmnfifnenajjaaGreat.Z h m):=by have l:=Fs.Z (w:=j) (f:=0) (c:=d) (a:=b.l) v s (by omega) (by rw[Ad7,Aeq (by rw[Mf x];grind)]) (BS.ZZ i);rw[i.A7,Un u]at l;rw[i.A7];exact l
theorem Fs.Cs{s:Type}{e:G}{f:F}{a:s->C _}{g:D}{b:C _}(i:∀k,¬As f k->t k)(j:∀c,(a c).l=g)(u:∀c,(a c).all Im=L)(n:Aw e f a g b):Fs t 2 e f (YtbmnfifnenajjaaGreat.Z a b):=by
 rcases n with⟨rfl,rfl⟩|⟨l,m,rfl,o,h,_⟩;.exact(Fs.sn e).up (by omega)
 .refine Fs.M0 (k:=1) (i l (λr=>r 0 b.l m g B)) j j (by rw[h];rfl) ?_
  clear h o i
  induction b with
  |nil=>exact .nil
  |cons c v q=>exact .cons (BS.Oh P) q
theorem Fs.Rt{m n:Type}{c:D}{a:G}{h:F}{d:n->C _}{e:m->C F}{b:D}{g:C n}{k:C m}(u:∀l,¬As h l->t l)(z:1<=c)(x:∀f,(d f).l=b)(v:∀i,(e i).l=b)(r:Aw a h d b g)(j:FN (λf i=>BS t c a (d f) (e i)) g k):Fs t (c+1) a h (YtbmnfifnenajjaaGreat.Z e k):=by
 rcases r with⟨rfl,w⟩|⟨o,q,rfl,_,s,_⟩;.have:=AeV.1 (by rw[<-j.A7,w];rfl);subst this;exact(Fs.sn a).up (by omega)
 .exact Fs.M0 (u o (λy=>y 0 g.l q b B)) x v (by rw[s];rfl) j
theorem Fs.S{a:D}{c:G}{b e:C F}(h:BS t a c b e):Fs t (a+1) c (.S b) (.S e):=λf d k=>by
 let⟨g,m,l⟩:=h f d k
 refine⟨g,?_,l⟩;show(match CT (Df (f+a)) d b with|some (j,i)=>A (F.S j,i)|none=>O)=_;grind
theorem Fs.p{e:D}{d:G}{a:T}{f b:D}{c h:C F}(s:t a)(q:DR (d.M a)=A (b,c))(n:BS t e d c h):Fs t (e+1) d (.p a f) (.pi (h.d f)):=λi g k=>by
 let⟨m,v,l⟩:=n i g k
 have r:=k.1 a b c q;refine⟨m.set a (.rc b c),?_,l.AI (Iw.rc s (l.p.1 a b c r))⟩;show(match DR _ with|some (b,j)=>(match CT (Df (i+e)) g j with|some (u,o)=>A (F.pi (u.d f),o.set a (.rc b j))|none=>O)|none=>O)=_;grind
theorem BS.FV{a:D}{b:G}{f e:C F}(h:BS t a b f e)(i:a<=40):∃c,Go.Fg.FV b f=A (e,c)/\Iw t b c:=by
 let⟨c,d,g⟩:=h (40-a) b (FC.refl _)
 rw[show 40-a+a=40 by omega]at d;exact⟨c,d,g⟩
theorem CY.fs{h:G}{r:F}{i l:D->F}{n:C AE}(p:CY h r i l n)(m:∀b,B8 r i l n.l b->t b):Fs t 3 h r (Z AE.c n):=by
 have H:∀(j:C AE)(d:D),(∀(a:D) e,j[a]? =A e->Aw h (i (d+a)) N.c 2 e.I/\Aw h (l (d+a)) BJ.c 2 e.AV/\(∀b,¬As (i (d+a)) b->t b)/\(∀b,¬As (l (d+a)) b->t b))->FN (λJ M=>BS t 2 h (Hh i l J) (AE.c M)) (List.range' d j.l) j:=by
  intro j
  induction j with
  |nil=>intro d _;exact .nil
  |cons e P E=>
   intro d s;rw[Aec,List.range'_succ];let⟨v,x,y,z⟩:=s 0 e B
   refine .cons (BS.cons (Fs.Cs (a:=N.c) (g:=2) y (λ_=>B) (λ_=>B) v) (BS.cons (Fs.Cs (a:=BJ.c) (g:=2) z (λ_=>B) (λ_=>B) x) (BS.nil _ _))) (E (d+1) λa I m=> ?_);have:=s (a+1) I (by grind);rwa[show d+(a+1)=d+1+a by omega]at this
 refine Fs.Rt (d:=Hh _ _) (e:=AE.c) (b:=2) (λb k=>m b (.i k)) (by omega) (λ_=>B) (λ_=>B) p.o ?_;rw[AfS];refine H n 0 λa e q=> ?_;rw[Ad2];have u:=(AdN.1 q).1;exact⟨p.c a e q,p.w a e q,λb k=>m b (.j ⟨a,u,.i k⟩),λb k=>m b (.j ⟨a,u,.j k⟩)⟩
theorem Ff.fs{g:G}{k i:F}{h l:D->F}{b:C _}{j:C Bz}{c:T}(d:Ff b j c k i h l g)(e:∀a,NP c k i h l b.l a->t a):Fs t 4 g (.p c 0) (.pi [Z AE.c b,.n (BH b),Z Bz.c j]):=
 Fs.p (f:=0) (h:=[Z _ b,.i _ _,Z _ _]) (e c (.i B)) (by rw[d.gx];rfl) (BS.cons (d.M.fs λa m=>e a (.j (.i m))) (BS.cons ((Fs.im B).up (by omega)) (BS.cons ((Fs.Cs (a:=Bz.c) (g:=3) (λa n=>e a (.j (.j n))) (λ_=>B) (λ_=>B) d.ot).up (by omega)) (BS.nil _ _))))
end
def ln{e d:T}{z:C F}{c:C AE}{n y:D->F}(E:c.l<=400)(o:b.M e=A (.I 1 [.p d 0]))(v:Lv b e)(q:b.M d=A (.I 3 (j::z)))(w:Lv b d)(x:Aw b j (Hh n y) 2 (List.range c.l))(t:C _):M4 (AH b) (pos 121) [.p e 0] t (λd=>.S (N.c d)) (λa=> !Gt a c.l):=λa _ g k=>by
 have h:=W_ a c.l (by omega);let⟨I,i,s,r,l,p,H,_⟩:=box g (.I 2 (N.c a))
 have Q:=Ko g a s r;have f:=k.AI l;have M:=p;have J:=(f.M v).t o;have P:=(f.M w).t q;have u:=Cp x;rw[Ad0]at u;refine⟨i,AZ B B ?_,f⟩;show xx W9 121 [.S (N.c a),.p e 0] g=A (.b (!Gt a c.l),i);generalize Gt a c.l=m at h⊢;rw[rZ];cases m<;>simp only[QY,h.H B,QB, *]
variable{m:F}
def qR{c:C AE}(n:Ft c){h:G}{xi xL:D->F}(xe:CY h k xi xL c){d:C N}(xG:Aw h m N.c 2 d)(xQ:d.l<=100)(i:∀q∈d,Gt q c.l=L):∃M,W9 (pos 62) [.S [k],m] h=A (.AB [.S (Ci.c (GC c d)),.n 0],M)/\HD m h M:=by
 let⟨W,p,xw,xr,xb,xm,xB,xU⟩:=box h (.I 1 [k])
 let⟨g,l,xx,xs,I,xn,xC,xV⟩:=box p (.I 2 [.sn,.sn])
 have xM:∀(o:F->G->R),bl (.p h.next 0) (h.V (.I (Bq (F.I (.S [k]))) (F.I (.S [k])))) o=o (.p W 0) p:=Dy h (.I 1 [k]) xw xr
 have xN:∀(o:F->G->R),bl (.p p.next 0) (p.V (.I 2 [.sn,.sn])) o=o (.p g 0) l:=Dy p _ xx xs
 have z:=xb.AI I
 have xF:¬Lv h g:=by grind
 have xJ:l.AL W 0 1=A [k]:=BB ((I.M xB).t xm)
 let⟨e,Y,T,xa,b,xj,xf,J,xl⟩:=fG n.ok n.Sc (xe.ext z)
 have r:AH b (b.V (.I 1 [.p e 0])):=AH.V _ _
 have u:(b.V (.I 1 [.p e 0])).M b.next=A (.I 1 [.p e 0]):=by grind
 have y:Lv (b.V (.I 1 [.p e 0])) b.next:=by grind
 have xE:¬Lv b b.next:=EX _
 have X:AX 1 (b.V (.I 1 [.pn])) [.p b.next 0,.p e 0]=A (AC,b.V (.I 1 [.p e 0])):=by have xK:(b.V (.I 1 [.pn])).set b.next (.I 1 [.p e 0])=b.V (.I 1 [.p e 0]):=VN _ _ _;rw[TL (HM _ _) B B,xK]
 generalize xy:b.next=xI at u y xE X
 generalize b.V (.I 1 [.p e 0])=xq at r u y X
 have t:=xf.ext r
 have xd:=z.AI (J.AI r)
 have E:=xG.ext xd
 have xT:=Cp E
 have xO:¬(d.l:K)>100:=by omega
 let⟨v,xA,s⟩:=M7 Uk SJ (IX.Cs (c:=N.c) (a:=2) (λ_=>B) E) (ln n.ok.1 u y t.gx t.lx t.M.o d) (by omega) xq (λxX xv=>⟨B,xv⟩)
 rw[P_ (λq=>Gt q c.l),Aei.2 i]at xA
 have xg:=t.ext s
 have xH:=E.ext s
 have xZ:v.Ap xI 0=A (.p e 0):=Ay ((s.M y).t u) 0
 have xz:=ed n.Sc
 have xo:=pb c n.ok xz (BH c:K) (Z Bz.c []) d (λq xR=>Xp (by rw[Ph q (by omega)];grind)) (by omega)
 let⟨j,xk,V⟩:=BS.FV (t:=λa=>NP e Y .sn T xa c.l a\/¬As m a) (BS.cons (xg.fs λa i=>.i i) (BS.cons ((Fs.Cs (a:=N.c) (g:=2) (λa xD=>.j xD) (λ_=>B) (λ_=>B) xH).up (by omega)) (BS.nil 4 v))) (by omega)
 have xS:=xo v _ j xk
 have xW:∀a,Lv l a->¬NP e Y .sn T xa c.l a:=λa i xt=>by
  have:=xl a i;rcases xt with x|x|x;.grind
  .grind
  .exact x (Cg a)
 have xh:As m g:=by grind
 have xc:AH l v:=J.AI (r.AI s)
 have P:∀a,Lv l a->As m a->j.M a=l.M a/\Lv j a:=λa i U=>⟨(V.o a (λx=>by grind)).t (xc.M i),by rw[V.l];grind⟩
 have xp:=(P g xC xh).1.t xn
 have x0:AX 2 j [.p g 0,.S (Ci.c (GC c d))]=A (AC,j.set g (.I 2 (Ci.c (GC c d)))):=Gb xp B B
 have xY:(j.set g (.I 2 (Ci.c (GC c d)))).AL g 0 2=A (Ci.c (GC c d)):=BB (by rw[AN,Af B])
 refine⟨j.set g (.I 2 (Ci.c (GC c d))),AZ B B ?_,λa i U=> ?_⟩
 rotate_left
 .have:=P a (z.lv i) U;have xu:a≠g:=λxP=>xF (by grind);exact⟨by rw[AN,Ad xu];grind,by grind⟩
 .rw[aV.1];simp only[↓xM,↓xN,↓Q,↓QT,AdM,↓H xJ,↓H xj];rw[xy];simp only[QY,Int.reduceEq,QB,aV.2.2,aV.2.1, *]
def T2(a:G)(d:F)(c:C K):Prop:=Aw a d Be 1 c\/(c=[]/\∃b e f,d=.Z b 0 0 0 1/\a.M b=A (.I e f))
def u3{q:F}{e a:C K}(k:T2 b q e)(s:(e.l+a.l)*8<=GA):∃i g,DN 1 8 b [q,Z Be a]=A (i,g)/\T2 g i (e++a):=by
 rcases k with k|⟨rfl,c,h,y,rfl,m⟩
 .let⟨i,g,d,v,_⟩:=Tt (f:=Be) (w:=1) (j:=8) (λ_=>B) (λ_=>B) k s
  exact⟨i,g,d,.i v⟩
 .have l:Ii (Z Be a)=A a.l:=by unfold Z;show A (a.m Be).l=_;grind
  have r:F7 b 1 a.l (Z Be a)=A (a.f Be):=by
   unfold Z;show Aj (BX a.l (a.m Be).l&&((a.m Be).all λd=>AW d.l 1)) (A (((a.m Be).t a.l).flatten)) O=_;have z:BX a.l (a.m Be).l=L:=AdX (by grind);have E:((a.m Be).all λd=>AW d.l 1)=L:=by rw[Aei];intro d t;obtain⟨x,_,rfl⟩:=Aeu.1 t;rfl
   grind
  have p:∀j,Jo b 1 8 (.Z c 0 0 0 1) a.l (a.f Be)=j->DN 1 8 b [.Z c 0 0 0 1,Z Be a]=j:=λj d=>by
   show(match Ii (Z Be a)with|some h=>(match F7 b 1 h (Z Be a)with|some o=>Aj (BU o) (Jo b 1 8 (.Z c 0 0 0 1) h o) O|none=>O)|none=>O)=_
   rw[l];simp only[r]
   rw[(λe=>by
   induction e with
   |nil=>rfl
   |cons x H n=>rw[DJ]at n⊢;rw[Aeh,AeG,n];rfl:∀e:C K,BU (e.f Be)=L)];grind
  by_cases u:a.l=0
  .have:a=[]:=by grind
   subst this;exact⟨.Z c 0 0 0 1,b,p _ B,.j ⟨B,c,h,y,B,m⟩⟩
  .refine⟨.Z b.next 0 (0+a.l) 0 1,(b.GG c).V (.I ((0+a.l)*1) (a.f Be)),p _ ?_,.i ?_⟩;.show Aj _ _ _=_;rw[Gm u,AdX (by grind)];show Aj (Xo (b.M c)) (A (F.Z b.next 0 (0+a.l) 0 1,(b.GG c).V (.I ((0+a.l)*1) (Es [] (a.f Be))))) O=_;rw[m,KU,Af2];rfl
   .have l:(b.GG c).next=b.next:=G.Tk _ _
    refine .j ⟨b.next,0,by simp,Om,?_,?_⟩<;>grind
def u4{d:F}{c:C _}(a:T2 b d c):Fz 2 b d (Z Be c):=by
 rcases a with a|⟨rfl,g,j,k,rfl,h⟩;.exact Fz.Cs (b:=Be) (h:=1) (λ_=>B) (λ_=>B) a
 .exactλi e _=>⟨e,B,FC.refl _⟩
def pO(c:D)(r:c<=1000000000)(d:G):∃k g,W9 (pos 192) [.sn,.n c] d=A (k,g)/\T2 g k []:=by
 have m:¬(c:K)<0:=by omega
 have n:H7 [.sn]=A (.n 0):=B;have p:DX [.sn]=A (.n 0):=B;have i:=FA (a:=0) (b:=0) (by omega) (by omega);have j:=FA (a:=(c:K)) (b:=0) (by omega) (by omega);rw[show(0:K)-0=0 by omega]at i;rw[show(c:K)-0=c by omega]at j;have f:=Ew .n (c:K) 0;by_cases o:c=0;.rw[A2 (by omega)]at f;refine⟨.sn,d,AZ B B ?_,.i (Aw.sn d)⟩;rw[SX.1];simp only[QY,m,SX.2.1,n,p,i,j,f,SX.2.2]
 .rw[A0 (by omega)]at f;have s:GF 1 Aa L [.sn,.n 0]=A .sn:=B;have l:BU (F_ [.n 0] c)=L:=by
   have:∀e,BU (F_ [.n 0] e)=L:=λe=>by
    induction e with
    |zero=>rfl
    |succ e h=>show BU (Es [.n 0] (F_ [.n 0] e))=L;rw[KU];rw[DJ]at h⊢;rw[AeG,h];rfl
   grind
  have q:Hm [.n 0] 1 8 d [.sn,.n (c:K)]=A (.Z d.next 0 c 0 1,d.V (.I (c*1) (F_ [.n 0] c))):=by show Aj (Aj (BX (c*8) GA) (BU (F_ [.n 0] c)) Aa) (Aj (AW c 0) (A (F.sn,d)) (Aj (BX (c*8) GA) (A (F.Z d.next 0 c 0 1,d.V (.I (c*1) (F_ [.n 0] c)))) O)) O=_;rw[AdX (DG (by omega)),l,Gm o];rfl
  have t:GF 1 Aa L [.Z d.next 0 c 0 1,.n 0]=A (.Z d.next 0 0 0 1):=B;refine⟨.Z _ 0 0 0 1,_,AZ B B ?_,.j ⟨B,d.next,_,_,B,HM d (.I (c*1) (F_ [.n 0] c))⟩⟩;rw[SX.1];simp only[QY,SX.2.1,SX.2.2, *]
def Qu:∀a:C (C K),a.flatten.l=D3 a
 |[]=>rfl
 |c::b=>by rw[Ae8,AdY,Qu b];rfl
def oD{b:C (C K)}{a:D}{c:C K}(d:b[a]? =A c):(b.t (a+1)).flatten=(b.t a).flatten++c:=by rw[<-FL d,List.flatten_append];simp
def pr(c:C (C K))(V:c.l<=2000000)(U:D3 c<=100000000):AY 138 [Z Cv c] (Z Be c.flatten):=by
 have w:∀{e:D}{f:C K},c[e]? =A f->D3 (c.t e)+f.l<=D3 c:=λ{e f} j=>by have T:=TO j;have t:=cD (b:=c) (e+1);omega
 let⟨l,g,p,y⟩:=Dh (h:=c.l) (f:=λe (l:D) g=>jj W9 138 6 [.n (c.l:K),Z Cv c,.n (e:K),.n (l:K),Z Cv c] g) (g:=λe l g=>g=G.Aq/\l=D3 (c.t e))
  (λe l g m q=>by
   obtain⟨rfl,rfl⟩:=q;let⟨f,j⟩:=Bb m
   have M:=w j;have E:=F2 (a:=(D3 (c.t e):K)) (b:=(f.l:K)) (by omega) (by omega);rw[show(D3 (c.t e):K)+(f.l:K)=((D3 (c.t e)+f.l:D):K) by omega]at E;have z:¬((D3 (c.t e)+f.l:D):K)<0:=by omega
   refine⟨D3 (c.t e)+f.l,G.Aq,?_,B,(TO j).s⟩;show jj W9 138 6 _ _=jj W9 138 6 _ _;rw[ML.2.2.1];simp only[QY,(Cm m),ML.2.2.2.1,H (I9 j),Mm,z,ML.2.2.2.2.1,H (Bh (a:=e) (by omega)), *])
  (b:=0) (a:=G.Aq) ⟨B,B⟩
 obtain⟨rfl,rfl⟩:=y;rw[Gz]at p;have p:jj _ 138 6 [.n c.l,Z Cv c,.n 0,.n 0,Z Cv c] G.Aq=jj W9 138 6 [.n c.l,Z Cv c,.n c.l,.n (D3 c),Z Cv c] G.Aq:=p;let⟨x,v,N,P⟩:=pO (D3 c) (by omega) G.Aq
 let⟨k,t,r,u⟩:=Dh (h:=c.l) (f:=λe k g=>jj W9 138 2 [.n c.l,Z Cv c,.n e,k] g) (g:=λe k g=>T2 g k (c.t e).flatten)
  (λe k g m q=>by
   let⟨f,j⟩:=Bb m
   have o:=Cm m;have M:=w j;let⟨R,J,S,W⟩:=u3 (a:=f) q (DG (by rw[Qu];omega))
   refine⟨R,J,?_,by rw[oD j];grind⟩;show jj W9 138 2 _ _=jj W9 138 2 _ _;rw[ML.2.2.2.2.2.2.1];simp only[QY,o,ML.2.2.2.2.2.2.2.1,H (I9 j),Mm,ML.2.2.2.2.2.2.2.2,H (Bh (a:=e) (by omega)), *])
  (b:=x) (a:=v) P
 rw[Gz]at u;have r:jj W9 138 2 [.n c.l,Z Cv c,.n 0,x] v=jj W9 138 2 [.n c.l,Z Cv c,.n c.l,k] t:=r;have o:=CA c.l;refine Fz.Oc B B (f:=k) (d:=t) (c:=2) ?_ (u4 u) (by omega);rw[ML.1];simp only[↓Q];rw[p,ML.2.2.1];simp only[QY,o,ML.2.1,N];rw[r,ML.2.2.2.2.2.2.1];simp only[↓Q,↓QT,AdM,o,ML.2.2.2.2.2.1]
variable{a:G}
def fM{e f:T}{g:N}{b:D}{n:D->C F}(c:K)(p:a.M e=A (.I 2 (N.c g)))(u:Lv a e)(q:a.M f=A (.I 1 [m]))(v:Lv a f)(y:Aw a m n 2 (List.range b)):∃j,W9 (pos 143) [.n c,.p e 0,.p f 0] a=A (.S (N.c (if c=0 then g else JJ b)),j)/\AH a j:=by
 let⟨I,E,t,s,d,o,H,x⟩:=box a (.I 2 [.i .u8 0,.n 0])
 have P:=Jp a t s;have J:=(d.M u).t p;have M:=(d.M v).t q;have w:=Cp y;rw[Ad0]at w;have z:Cb [(.i .u8 0),(.n 0)] [(0,1),(1,1)] [.i .u8 4,.n b]=A (.S (N.c (JJ b))):=B;let⟨r,l,k,i⟩:=Gy o (if c=0 then g else JJ b)
 refine⟨r,AZ B B ?_,by rw[i];exact d.Gw x _⟩;clear i;rw[hg.1];by_cases h:c=0;.rw[Af h]at l k⊢;simp only[QY, *]
 .rw[Ad h]at l k⊢;simp only[QY,hg.2, *]
def Pk(b:G)(a:T)(i:N)(h:T)(f e:F)(c g:D->F)(d:D):Prop:=b.M a=A (.I 2 (N.c i))/\Lv b a/\a≠h/\¬B8 f c g d a/\As e a
variable{r:D->F}
def Aax{U:C (C K)}{xi:C Ah}{xe:G}{j u:T}{xr h:D}{d:C K}{l:Ah}{g:K}(xT:d[h]? =A g)(yf:d.l<=400){n:D}{c:C AE×C N}(ye:c.1.l=n+h)(yh:c.1.l<400){z:F}{p:D->F}(m:Hj xe j c z y p r f)(xA:Pk f u (if l=L then D4 else AO) j z y p r c.1.l):
  ∃o xj xy X,jj W9 95 4 [.n d.l,Z Be d,.f (pos 143) [.p u 0,.p j 0],Z Be d,.n h,.n xr,.n U.l,Z Cv U,Z CN xi,y,.p j 0] f=jj W9 95 4 [.n d.l,Z Be d,.f (pos 143) [.p u 0,.p j 0],Z Be d,.n (h+1:D),.n xr,.n U.l,Z Cv U,Z CN xi,y,.p j 0] X/\
   Hj xe j (c.1++[⟨[EA g,EY n (h+1:D) d.l l],[]⟩],c.2) o y xj xy X/\Pk X u (if l=L then D4 else AO) j o y xj xy (c.1.l+1):=by
 have xN:h<d.l:=by grind
 have x6:f.Ap j 0=A z:=Ay m.B.gx 0
 have xK:=ab g
 have xZ:Bv .Cq [.p j 0] f z=L:=Ij m.B.gx B
 have W:AH f (f.V (.I 4 ([EA g,AO].f N.c))):=AH.V _ _
 have xc:=iL f (EA g) AO
 have xC:∀e,Lv f e->As (.Z f.next 0 2 3 2) e:=λe q=>EN λxD=>by subst xD;exact EX f q
 have xw:=jC f.next (EA g) AO
 have xl:Cb [.sn,.sn] [(0,1)] [.Z f.next 0 2 3 2]=A (.S [.Z f.next 0 2 3 2,.sn]):=B
 generalize yd:F.Z f.next 0 2 3 2=t at xc xC xw xl
 generalize xM:f.V (.I 4 ([EA g,AO].f N.c))=xp at W xc
 have xz:=m.B.Ar (f:=xp) P
 have yl:∀w,w=j\/B8 z p r c.1.l w->Lv f w:=λw S=>by
  rcases S with rfl|S;.exact m.B.lx
  .exact m.B.M.lv S
 let⟨o,yc,Y,xX,x8,xo,v,xn⟩:=xz.add (p:=⟨[EA g,AO],[]⟩) xc (Aw.sn xp) (Ku _) (λw S=>⟨P,Cg w⟩) (by omega)
 have x7:Y.Ap j 0=A o:=Ay xo 0
 have xq:(c.1++[(⟨[EA g,AO],[]⟩:AE)]).l=c.1.l+1:=by simp
 have xt:=Cp v.M.o
 rw[Ad0,xq]at xt
 have xm:=FA (a:=((c.1.l+1:D):K)) (b:=1) (by omega) (by omega)
 rw[show((c.1.l+1:D):K)-1=(c.1.l:K) by omega]at xm
 have xP:(c.1++[(⟨[EA g,AO],[]⟩:AE)])[c.1.l]? =A ⟨[EA g,AO],[]⟩:=by simp
 let⟨I,xU,_,xu,_,_⟩:=v.M.at (by grind:c.1.length<(c.1++[(⟨[EA g,AO],[]⟩:AE)]).length)
 rw[Ec]at xu
 have xI:Bl 0 [.p I (c.1.l*2)]=A (.p I (c.1.l*2)):=B
 have xY:AM Y [.p I (c.1.l*2)]=A t:=xu
 have xE:=FA (a:=(d.l:K)) (b:=1) (by omega) (by omega)
 have xF:=FA (a:=(d.l:K)-1) (b:=(h:K)) (by omega) (by omega)
 let⟨xV,xa,xb,xs,xW⟩:=xA
 have xJ:=xn u (W.lv xa) xb xs
 have xL:=xJ.1.t ((W.M xa).t xV)
 let⟨J,xk,xd⟩:=fM ((d.l:K)-1-(h:K)) xL P xo v.lx v.M.o
 have xR:(if(d.l:K)-1-(h:K)=0 then(if l=L then D4 else AO)else JJ ((c.1++[(⟨[EA g,AO],[]⟩:AE)]).l))=EY n (h+1:D) d.l l:=by unfold EY;grind
 rw[xR]at xk
 have xG:C8 W9 (.f (pos 143) [.p u 0,.p j 0]) [.n ((d.l:K)-1-(h:K))] Y=A (.S (N.c (EY n (h+1:D) d.l l)),J):=xk
 have E:=v.Ar (f:=J) λe q _=>⟨xd.M q,xd.lv q⟩
 have x0:Bv .Cq [.p I (c.1.l*2)] J t=L:=by
  let⟨xg,yj,_,xv,_,_⟩:=E.M.at (by grind:c.1.length<(c.1++[(⟨[EA g,AO],[]⟩:AE)]).length)
  have:xg=I:=by grind
  subst this;rw[Ec]at xv;show KI (J.Ap xg (c.1.l*2)) _=L;rw[xv];exact L0 _
 have x1:Bv .Cq [.p j 0] J o=L:=Ij E.gx B
 let⟨xh,R,xx,_,_,ya,yb,x5,x2,x3⟩:=E.M.Ep (h:=1) (x:=AO) xP B (EY n (h+1:D) d.l l)
 rw[Ec]at xx
 have x9:AR 2 [t,.n 1]=A (.p xh (1*2)):=xx
 have yi:(c.1++[(⟨[EA g,AO],[]⟩:AE)]).set c.1.l ⟨[EA g,AO].set 1 (EY n (h+1:D) d.l l),[]⟩=c.1++[⟨[EA g,EY n (h+1:D) d.l l],[]⟩]:=by grind
 have xB:CY R o (BW p c.1.l t) (BW r c.1.l .sn) (c.1++[⟨[EA g,EY n (h+1:D) d.l l],[]⟩]):=by grind
 have xO:(c.1++[(⟨[EA g,EY n (h+1:D) d.l l],[]⟩:AE)]).l=c.1.l+1:=by simp
 have yk:B8 o (BW p c.1.l t) (BW r c.1.l .sn) (c.1.l+1) xh:=.j ⟨c.1.l,by omega,.i x3⟩
 have x4:=v.nx
 rw[xq]at x4
 have xf:∀e,Lv f e->e≠j->¬B8 z p r c.1.l e->R.M e=f.M e/\Lv R e/\¬B8 o (BW p c.1.l t) (BW r c.1.l .sn) (c.1.l+1) e:=λe q xS xQ=>by have xH:=xn e P xS xQ;have yg:=xH.2.2 P (Cg e);grind
 refine⟨o,BW p c.1.l t,BW r c.1.l .sn,R,?_,?_,?_⟩
 .rw[IJ.2.2.2.2.2.2.2.2.1];simp only[↓Q,↓QT,(Cm xN),IJ.2.2.2.2.2.2.2.2.2.1,↓H (UJ xT),↓XB,↓H x6,↓xK.H B,xZ,↓Lq,↓Xa.H B,↓H xw,↓H xl,xM,↓xX,↓H x8,↓H x7,↓H xt,↓H xm,↓H xU,↓H xI,↓H xY,↓H xE,↓H xF,↓H xG,x0,x1,↓H x9,↓H ya,Bool.cond_true,IJ.2.2.2.2.2.2.2.2.2.2,↓H (Bh (a:=h) (by omega))]
 .exact{
  B:={M:=xB,gx:=(x5 j P).t E.gx,lx:=by rw[x2];exact E.lx,nx:=by grind}
  ou:=m.ou.Ar λe q V=>by have:=m.ux e V;grind
  ux:=λe V=>by have:=m.ux e V;rw[xO];exact⟨P,(xf e (m.ou.Cz V) P P).2.2⟩
  BO:=λe q=>by
   let⟨ym,yn,yo,yp,yq⟩:=m.BO e q
   grind}
 .have yr:=xf u xa xb xs;exact⟨P,P,xb,P,xW⟩
def tr{e:C (C K)}{t:C Ah}{z:G}{d:T}{o:D}{a:C K}{c:Ah}(xB:e[o]? =A a)(xy:t[o]? =A c)(yc:o<3000000){b:C AE×C N}(yd:b.1.l+a.l<=400)(ye:b.2.l<3000000){v:F}{E M:D->F}{k:G}(m:Hj z d b J v E M k):∃xi j xd xj X,jj W9 95 2 [.n e.l,Z Cv e,Z CN t,.n o,v,.p d 0] k=jj W9 95 2 [.n e.l,Z Cv e,Z CN t,.n (o+1:D),j,.p d 0] X/\Hj z d (NV b (a,c)) xi j xd xj X:=by
 have xT:o<e.l:=by grind
 have xJ:=Cm xT;have xx:=Xa;have xP:=aa;let⟨l,yb,xD,xA,xH,xO,yf,xa⟩:=box k (.I 2 [.i .u8 0,.n 0])
 let⟨xe,x3,_,xt⟩:=Gy xO AO
 have xv:xe.M l=A (.I 2 (N.c AO)):=by rw[xt,AN,Af B]
 have xY:Lv xe l:=by grind
 have xq:AH k xe:=by rw[xt];exact xH.Gw xa _
 have xI:∃P,(∀v:F,jj W9 95 8 [v,.n o,.n e.l,Z Cv e,Z CN t,.p d 0] k=jj W9 95 7 [.p l 0,v,Z Be a,.n o,.n (e.l:K),Z Cv e,Z CN t,.p d 0] P)/\AH k P/\P.M l=A (.I 2 (N.c (if c=L then D4 else AO)))/\Lv P l:=by
  cases c with
  |true=>
   let⟨xQ,x4,_,u⟩:=Gy xv D4
   refine⟨xQ,λv=> ?_,by rw[u];exact xq.Gw xa _,by rw[u,AN,Af B];rfl,by grind⟩;rw[IJ.2.2.2.2.2.1];simp only[↓H (I9 xB),↓Mm,↓xx.H B];rw[Jp k xD xA];simp only[QY,x3,Uf xy,XA,xP.H B,x4]
  |false=>refine⟨xe,λv=> ?_,xq,xv,xY⟩;rw[IJ.2.2.2.2.2.1];simp only[↓H (I9 xB),↓Mm,↓xx.H B];rw[Jp k xD xA];simp only[QY,H (Uf xy),XA, *]
 let⟨P,xM,xl,xw,Y⟩:=xI
 have xk:=m.B.Ar (f:=P) λg p _=>⟨xl.M p,xl.lv p⟩;let⟨xR,xu,V⟩:=fM (a.l:K) xw Y xk.gx xk.lx xk.M.o
 have xV:(if(a.l:K)=0 then(if c=L then D4 else AO)else JJ (b.1.l))=EY b.1.l 0 a.l c:=by
  unfold EY;by_cases xL:(a.l:K)=0;.grind
  .have xS:(0:K)<(a.l:K):=by omega
   rw[Ad xL,Af xS,Int.add_zero]
 rw[xV]at xu;have xN:C8 W9 (.f (pos 143) [.p l 0,.p d 0]) [.n a.l] P=A (.S (N.c (EY b.1.l 0 a.l c)),xR):=xu;have r:=xl.AI V;let⟨j,R,xX,x2,u,xc⟩:=FJ (f:=N.c) (w:=2) (b:=EY b.1.l 0 a.l c) (o:=.S (N.c (EY b.1.l 0 a.l c))) (h:=16) (λ_=>B) B B (m.ou.ext r) (DG (by grind))
 have xf:∀g,g=d\/B8 J E M b.1.l g->As v g:=λg p=>AdS λxg=>by
  have:=m.ux g xg;rcases p with rfl|p;.grind
  .grind
 have xp:As v l:=AdS λxW=>xa (m.ou.Cz xW);have x7:Hj z d (b.1,b.2++[EY b.1.l 0 a.l c]) J j E M R:={
  B:=m.B.Ar λg p S=>⟨(u.M (r.lv p) (xf g S)).t (r.M p),u.lv (r.lv p) (xf g S)⟩
  ou:=x2
  ux:=λg xg=>by
   constructor;.intro W;subst W;exact xg (xc g (r.lv m.B.lx) (xf g (.i B)))
   .intro S;exact xg (xc g (r.lv (m.B.M.lv S)) (xf g (.j S)))
  BO:=λg p=>by
   let⟨xZ,xh,x0,x1,xo⟩:=m.BO g p
   exact⟨(u.M (r.lv xh) xo).t ((r.M xh).t xZ),u.lv (r.lv xh) xo,x0,x1,xc g (r.lv xh) xo⟩}
 have ya:Pk R l (if c=L then D4 else AO) d J j E M b.1.l:=⟨(u.M (V.lv Y) xp).t ((V.M Y).t xw),u.lv (V.lv Y) xp,λW=>xa (W▸m.B.lx),λS=>xa (m.B.M.lv S),xc l (V.lv Y) xp⟩;let⟨⟨xF,xs,xG⟩,xn,xm,xb,x9⟩:=Dh (h:=a.l) (f:=λq _ k=>jj W9 95 4 [.n a.l,Z Be a,.f (pos 143) [.p l 0,.p d 0],Z Be a,.n q,.n o,.n e.l,Z Cv e,Z CN t,j,.p d 0] k)
  (g:=λq U k=>Hj z d (b.1++Jd b.1.l a.l c 0 (a.t q),b.2++[EY b.1.l 0 a.l c]) U.1 j U.2.1 U.2.2 k/\Pk k l (if c=L then D4 else AO) d U.1 j U.2.1 U.2.2 (b.1.l+q))
  (λq U k xU m=>by
   let⟨x5,xE⟩:=Bb xU
   have xC:(b.1++Jd b.1.l a.l c 0 (a.t q)).l=b.1.l+q:=by rw[AdY,U5,Aef];omega
   have xr:=m.2;rw[<-xC]at xr;let⟨xi,xd,xj,X,W,x6,x8⟩:=Aax (xr:=o) (U:=e) (xi:=t) xE (by omega) (n:=b.1.l) xC (by grind) m.1 xr
   refine⟨(xi,xd,xj),X,W,?_,?_⟩;.have xz:=a4 b.1.l a.l c x5 (a.t q) 0;rw[FL xE,Aef,show min q a.l=q by omega,Ad2]at xz;show Hj z d (b.1++Jd b.1.l a.l c 0 (a.t (q+1)),b.2++[EY b.1.l 0 a.l c]) xi j xd xj X;rw[xz,<-AeN];grind
   .grind)
  (b:=(J,E,M)) (a:=R) (by show Hj z d (b.1++Jd b.1.l a.l c 0 (a.t 0),b.2++[EY b.1.l 0 a.l c]) J j E M R/\Pk R l (if c=L then D4 else AO) d J j E M (b.1.l+0);rw[Af1];show Hj z d (b.1++[],b.2++[EY b.1.l 0 a.l c]) J j E M R/\_;rw[Ad5];grind)
 have xm:jj W9 95 4 [.n a.l,Z Be a,.f (pos 143) [.p l 0,.p d 0],Z Be a,.n 0,.n o,.n e.l,Z Cv e,Z CN t,j,.p d 0] R=jj W9 95 4 [.n a.l,Z Be a,.f (pos 143) [.p l 0,.p d 0],Z Be a,.n a.l,.n o,.n e.l,Z Cv e,Z CN t,j,.p d 0] xn:=xm;have xb:Hj z d (b.1++Jd b.1.l a.l c 0 (a.t a.l),b.2++[EY b.1.l 0 a.l c]) xF j xs xG xn:=xb;rw[Gz]at xb;have xK:=CA a.l;refine⟨xF,j,xs,xG,xn,?_,xb⟩;rw[IJ.2.2.2.2.1];simp only[QY,xJ,xM,IJ.2.2.2.2.2.2.2.1,xN,xX];rw[xm,IJ.2.2.2.2.2.2.2.2.1];simp only[↓Q,↓QT,AdM,xK,IJ.2.2.2.2.2.2.1,↓H (Bh (a:=o) (by omega))]
def le(c:K->Ah):∀b:C _,b.flatten.all c=b.all λa=>a.all c
 |[]=>rfl
 |a::d=>by grind
def lp(f:G)(g:C K):M4 (λb=>b=f) (pos 139) [] g (λa=>.n a) (λa=> !I7 a):=λa _ b d=>by have c:=N9 a (-1000000000) 1000000000;refine⟨b,AZ B B ?_,d⟩;show xx W9 139 [.n a] b=A (.b (!I7 a),b);unfold I7;generalize BK a (-1000000000) 1000000000=e at c⊢;rw[r5];cases e<;>simp only[QY,c.H B,QB]
def ra(a:C (C K))(b:C Ah)(xI:a.l<=2000000)(xC:D3 a<=100000000)(d:G):((Co a b).2.2≠0->∃k,W9 (pos 95) [Z Cv a,Z CN b] d=A (.AB [.S [.sn],.sn,.n (Co a b).2.2],k)/\AH d k)/\
  ((Co a b).2.2=0->∃g o q r k,W9 (pos 95) [Z Cv a,Z CN b] d=A (.AB [.S [g],o,.n 0],k)/\CY k g q r (Co a b).1/\Aw k o N.c 2 (Co a b).2.1/\AH d k/\
   (∀c,Lv d c->¬B8 g q r (Co a b).1.l c/\As o c)/\(∀c,¬As o c->¬B8 g q r (Co a b).1.l c)):=by
 let⟨j,S,xK,xH,X,xb,xN,xr⟩:=box d (.I 1 [.sn])
 have W:∀(xl:F->G->R),bl (.p d.next 0) (d.V (.I 1 [.sn])) xl=xl (.p j 0) S:=Dy d _ xK xH
 have xj:S.AL j 0 1=A [.sn]:=BB xb
 let⟨xd,xk,xi,xz⟩:=PR xb (b:=.sn) B
 have xv:AH d xd:=by rw[xz];exact X.Gw xr _
 have Y:∀t:K,t≠0->Co a b=([],[],t)->xx W9 95 [Z Cv a,Z CN b] d=A (.AB [.S [.sn],.sn,.n t],xd)->
  ((Co a b).2.2≠0->∃k,W9 (pos 95) [Z Cv a,Z CN b] d=A (.AB [.S [.sn],.sn,.n (Co a b).2.2],k)/\AH d k)/\
  ((Co a b).2.2=0->∃g o q r k,W9 (pos 95) [Z Cv a,Z CN b] d=A (.AB [.S [g],o,.n 0],k)/\CY k g q r (Co a b).1/\Aw k o N.c 2 (Co a b).2.1/\AH d k/\
   (∀c,Lv d c->¬B8 g q r (Co a b).1.l c/\As o c)/\(∀c,¬As o c->¬B8 g q r (Co a b).1.l c)):=λt xF xD xM=>by
  rw[xD]
  exact⟨λ_=>⟨xd,AZ B B xM,xv⟩,λy=>BF y xF⟩
 by_cases E:a.l=b.l
 .have J:(b.l:K)=(a.l:K):=by omega
  have xc:=pr a xI xC
  have xG:=Qu a
  let⟨U,w,xA⟩:=M7 dZ gM (t:=λd=>d=S) (IX.Z (b:=Be) (z:=1) a.flatten (w:=λj=>.n j) (y:=AM) (λ_=>B) (λ_ _=>B)) (lp S a.flatten) (by omega) S B
  subst xA
  rw[P_ I7,le]at w
  have xq:DX [Z Be a.flatten]=A (.n (D3 a:K)):=by rw[DF,xG]
  cases P:a.all (λxf=>xf.all I7)with
  |false=>rw[P]at w;refine Y 3 (by grind) (by unfold Co;rw[Ad (λe=>e E),P,Af B]) ?_;rw[IJ.1];simp only[↓W,↓Q,↓QT,J,IJ.2.1,↓xc.H B,↓H w,QB,↓H xj,↓H xk,↓H xi]
  |true=>
   rw[P]at w;have T:=Ew .n (D3 a:K) 400;by_cases xm:400<D3 a;.rw[A0 (by omega)]at T;refine Y 5 (by grind) (by unfold Co;rw[Ad (λe=>e E),P,Ad (by grind),Af xm]) ?_;rw[IJ.1];simp only[↓W,↓Q,↓QT,J,IJ.2.1,↓xc.H B,↓H w,QB,↓H xq,↓H T,↓H xj,↓H xk,↓H xi]
   .rw[A2 (by omega)]at T;unfold Co;rw[Ad (λe=>e E),P,Ad (by grind),Ad xm];refine⟨λy=>BF B y,λ_=> ?_⟩;have xw:Hj d j ([],[]) .sn .sn (λ_=>.sn) (λ_=>.sn) U:={
     B:={M:=CY.nil _ _ _,gx:=xb,lx:=xN,nx:=E_.2 ⟨Cg _,λp xe=>by grind⟩}
     ou:=Aw.sn U
     ux:=λc xg=>BF (Cg c) xg
     BO:=λc u=>⟨X.M u,X.lv u,λt=>xr (t▸u),E_.2 ⟨Cg _,λp xe=>by grind⟩,Cg c⟩}
    let⟨⟨g,o,q,r⟩,e,xa,m⟩:=Dh (h:=a.l) (f:=λp (x:F×F×(D->F)×(D->F)) e=>jj W9 95 2 [.n (a.l:K),Z Cv a,Z CN b,.n (p:K),x.2.1,.p j 0] e)
     (g:=λp x e=>Hj d j (Kp ((a.zip b).t p)) x.1 x.2.1 x.2.2.1 x.2.2.2 e)
     (λp x e xe m=>by
      let⟨xf,xp⟩:=Bb xe
      let⟨y,xE⟩:=Bb (b:=b) (a:=p) (by omega)
      have xL:(a.zip b)[p]? =A (xf,y):=by grind
      let⟨xU,xV⟩:=Uj (b:=a) (c:=b) (a:=p) (by omega) E
      have w:=TO xp;have xW:=cD (b:=a) (p+1);let⟨xt,xs,xn,xu,xo,t,xS⟩:=tr xp xE (by omega) (by omega) (by omega) m
      refine⟨(xt,xs,xn,xu),xo,t,?_⟩;show Hj d j (Kp ((a.zip b).t (p+1))) xt xs xn xu xo;rw[Y4 xL];grind)
     (b:=(.sn,.sn,λ_=>.sn,λ_=>.sn)) (a:=U) xw
    have xa:jj W9 95 2 [.n (a.l:K),Z Cv a,Z CN b,.n 0,.sn,.p j 0] U=jj W9 95 2 [.n (a.l:K),Z Cv a,Z CN b,.n (a.l:K),o,.p j 0] e:=xa;have m:Hj d j (Kp ((a.zip b).t a.l)) g o q r e:=m;rw[Aeq (by grind)]at m;have xy:BU [g]=L:=by rw[DJ];simp[(Cr m.B.M.o).2]
    have x0:=m.B.gx;have V:∀c,(e.set j (.I 1 [g])).M c=e.M c:=jP m.B.gx;have xR:AX 1 e [.p j 0,.S [g]]=A (AC,e.set j (.I 1 [g])):=Gb m.B.gx B xy;have xQ:(e.set j (.I 1 [g])).AL j 0 1=A [g]:=BB (by grind);have xO:∀c,Lv (e.set j (.I 1 [g])) c=Lv e c:=by grind
    generalize e.set j (.I 1 [g])=xB at V xR xQ xO;have xT:=CA a.l;refine⟨g,o,q,r,xB,AZ B B ?_,m.B.M.Ar λxh xJ _=>⟨V xh,by grind⟩,m.ou.Ar λxh xJ _=>⟨V xh,by grind⟩,λc u=> ?_,λc u=> ?_,λc xg=>(m.ux c xg).2⟩;.rw[IJ.1];simp only[↓W,↓Q,↓QT,J,IJ.2.1,↓xc.H B,↓H w,QB,↓H xq,↓H T,IJ.2.2.1];rw[xa,IJ.2.2.2.2.1];simp only[QY,IJ.2.2.2.1, *]
    .let⟨xP,xX,_⟩:=m.BO c u
     exact⟨(V c).t xP,by grind⟩
    .let⟨_,_,_,xY,xZ⟩:=m.BO c u
     grind
 .have J:¬b.l=(a.l:K):=by omega
  refine Y 2 (by grind) (by unfold Co;rw[Af E]) ?_;rw[IJ.1];simp only[↓W,↓Q,↓QT,AdM,J,↓H xj,↓H xk,↓H xi]
def JS(a:K)(b:AQ):K:=
 if(b.l.l:K)≠a\/(b.BT.l:K)≠a\/a>3 then 2
 else if(b.l.any λc=>Ao ((c.l:K)>40))=L then 5 else 0
def lo(d:G)(e:C (C K)):M4 (λb=>b=d) (pos 137) [] e (λa=>Z Be a) (λa=>Ao ((a.l:K)>40)):=λa _ b c=>by have f:=Ew .n (a.l:K) 40;refine⟨b,AZ B B ?_,c⟩;show xx W9 137 [Z Be a] b=A (.b (Ao ((a.l:K)>40)),b);rw[r4];simp only[QY, *]
def q_(b:K)(a:AQ)(n:a.l.l<1000000000):AY 94 [.n b,.S a.c] (.n (JS b a)):=Bu B B B (by
 let⟨v,c,o,m,s,h,t,u⟩:=box G.Aq (.I 2 a.c)
 have r:=Dy G.Aq (.I 2 a.c) o m;have w:=h;have x:=h;let⟨l,p,k⟩:=M7 l9 ru (t:=λi=>i=c) (IX.Z (b:=Cv) (z:=1) a.l (w:=λa=>Z Be a) (y:=AM) (λ_=>B) (λ_ _=>B)) (lo c a.l) n c B
 subst k;refine⟨l,?_⟩;unfold JS;by_cases d:a.l.l=b
 .by_cases e:a.BT.l=b
  .by_cases g:b>3;.rw[Af (.j (.j g)),S8.1];simp only[QY, *]
   .rw[Ad (by grind),S8.1];generalize(a.l.any λq=>Ao ((q.l:K)>40))=j at p⊢;cases j<;>simp only[QY,r,d,e,g,S8.2.1,QB,S8.2.2,reduceIte, *]
  .rw[Af (.j (.i e)),S8.1];simp only[QY, *]
 .rw[Af (.i d),S8.1];simp only[QY, *])
inductive Bm where
 |Ex|Bn|Ac|Am|C5
 |BC (a:D)
 |An (a:D)
 |AG (a:D)
 |AD (a b:D)
 |AS (a:D)
 |A4 (a:D)
 |B1 (a b:D)
 deriving DecidableEq
structure AK where
 Bc:K
 AP:K
 Ax:K
 Az:K
 An:C N
 AG:C (C N)
 AS:C K
 next:K
 A4:C (C BA)
def Tg(b:T->Bm)(d:F)(c:Bm):Prop:=∀a,¬As d a->b a=c
def EE(a:D->F)(b:D):C F:=[a b]
structure C6(e:T->Bm)(c:G)(d:D)(l:T)(a:AK)(m k g i:F)(j h:D->F):Prop where
 M:c.M l=A (.I 9 [.n a.Bc,.n a.AP,.n a.Ax,.n a.Az,m,k,g,.n a.next,i])
 lv:Lv c l
 B3:e l=.BC d
 An:Aw c m N.c 2 a.An
 Fr:Tg e m (.An d)
 AG:Aw c k (EE j) 1 (List.range a.AG.l)
 Jl:Tg e k (.AG d)
 AD:∀(b:D) f,a.AG[b]? =A f->Aw c (j b) N.c 2 f/\Tg e (j b) (.AD d b)
 AS:Aw c g Be 1 a.AS
 Fq:Tg e g (.AS d)
 A4:Aw c i (EE h) 1 (List.range a.A4.l)
 Jk:Tg e i (.A4 d)
 B1:∀(b:D) f,a.A4[b]? =A f->Aw c (h b) BA.c 3 f/\Tg e (h b) (.B1 d b)
def Bm.of(b:D):Bm->Prop
 | .BC a=>a=b
 | .An a=>a=b
 | .AG a=>a=b
 | .AD a _=>a=b
 | .AS a=>a=b
 | .A4 a=>a=b
 | .B1 a _=>a=b
 |_=>False
def C6.Ar{m u:T->Bm}{j k:G}{l:D}{i:T}{n:AK}{t s o q:F}{p:D->F}(b:C6 m j l i n t s o q r p)(d:∀a,Lv j a->(m a).of l->k.M a=j.M a/\Lv k a/\u a=m a):C6 u k l i n t s o q r p where
 M:=(d i b.lv (by rw[b.B3];rfl)).1.t b.M
 lv:=(d i b.lv (by rw[b.B3];rfl)).2.1
 B3:=(d i b.lv (by rw[b.B3];rfl)).2.2.t b.B3
 An:=b.An.Ar λa e c=>⟨(d a e (by rw[b.Fr a c];rfl)).1,(d a e (by rw[b.Fr a c];rfl)).2.1⟩
 Fr:=λa c=>(d a (b.An.Cz c) (by rw[b.Fr a c];rfl)).2.2.t (b.Fr a c)
 AG:=b.AG.Ar λa e c=>⟨(d a e (by rw[b.Jl a c];rfl)).1,(d a e (by rw[b.Jl a c];rfl)).2.1⟩
 Jl:=λa c=>(d a (b.AG.Cz c) (by rw[b.Jl a c];rfl)).2.2.t (b.Jl a c)
 AD:=λg h f=>⟨(b.AD g h f).1.Ar λa e c=>⟨(d a e (by rw[(b.AD g h f).2 a c];rfl)).1,(d a e (by rw[(b.AD g h f).2 a c];rfl)).2.1⟩,λa c=>(d a ((b.AD g h f).1.Cz c) (by rw[(b.AD g h f).2 a c];rfl)).2.2.t ((b.AD g h f).2 a c)⟩
 AS:=b.AS.Ar λa e c=>⟨(d a e (by rw[b.Fq a c];rfl)).1,(d a e (by rw[b.Fq a c];rfl)).2.1⟩
 Fq:=λa c=>(d a (b.AS.Cz c) (by rw[b.Fq a c];rfl)).2.2.t (b.Fq a c)
 A4:=b.A4.Ar λa e c=>⟨(d a e (by rw[b.Jk a c];rfl)).1,(d a e (by rw[b.Jk a c];rfl)).2.1⟩
 Jk:=λa c=>(d a (b.A4.Cz c) (by rw[b.Jk a c];rfl)).2.2.t (b.Jk a c)
 B1:=λg h f=>⟨(b.B1 g h f).1.Ar λa e c=>⟨(d a e (by rw[(b.B1 g h f).2 a c];rfl)).1,(d a e (by rw[(b.B1 g h f).2 a c];rfl)).2.1⟩,λa c=>(d a ((b.B1 g h f).1.Cz c) (by rw[(b.B1 g h f).2 a c];rfl)).2.2.t ((b.B1 g h f).2 a c)⟩
def C6.ext{n:T->Bm}{g:G}{i:D}{b:AK}{c e:F}{j d:D->F}(o:C6 n f i l b m k c e j d)(a:AH f g):C6 n g i l b m k c e j d:=o.Ar λp h _=>⟨a.M h,a.lv h,B⟩
def H0(b:AK)(a:AF):Ae N:=if a.Ax<0 then(if 0<=a.AD then b.An[a.AD.n]?else O)else(if 0<=a.AD then(b.AG[a.Ax.n]?).b λc=>c[a.AD.n]?else O)
variable{e:G}
def Nc{xg:T->Bm}{Z:D}{z:T}{j:AK}{E R:F}{g Q:D->F}(H:C6 xg e Z z j E y J R g Q)(a:AF){l:N}(b:H0 j a=A l):∃u,W9 (pos 63) [.p z 0,.S (AF.c a)] e=A (.S (N.c l),u)/\AH e u:=by
 let⟨xn,v,X,V,n,M,xd,xm⟩:=box e (.I 2 (AF.c a))
 let⟨xo,S,Y,W,p,P,xl,xe⟩:=box v (.I 2 [.i .u8 0,.n 0])
 have xu:=Dy e (.I 2 (AF.c a)) X V;have xv:=Jp v Y W;have m:=n.AI p;have xf:=λxb=>xe (n.lv xb);have c:=H.ext m;have t:=(p.M xd).t M;have xi:=t;have xj:=t;have xq:=c.M;have xr:=c.M;let⟨U,xt,xp,s⟩:=Gy P l
 refine⟨U,AZ B B ?_,by rw[s];exact m.Gw xf _⟩;clear s;rw[hp.1];unfold H0 at b;by_cases r:a.Ax<0
 .rw[Af r]at b;by_cases k:0<=a.AD
  .rw[Af k]at b;let⟨h,d⟩:=CD (f:=N.c) (w:=2) (λ_=>B) c.An b
   have xa:AR 2 [E,.n a.AD]=A (.p h (a.AD.n*2)):=by have:=d.ia;rwa[show a.AD.n=a.AD by omega]at this
   have xh:=d.AL (f:=N.c) (λ_=>B) b;simp only[QY, *]
  .grind
 .rw[Ad r]at b;by_cases k:0<=a.AD
  .rw[Af k]at b
   cases i:j.AG[a.Ax.n]?with
   |none=>rw[i]at b;cases b
   |some xc=>
    rw[i]at b;have b:=b;have x:=(AdN.1 i).1;let⟨h,d⟩:=CD (f:=EE g) (w:=1) (λ_=>B) c.AG (F9 x)
    have xa:AR 1 [y,.n a.Ax]=A (.p h (a.Ax.n*1)):=by have:=d.ia;rwa[show a.Ax.n=a.Ax by omega]at this
    have xs:AM S [.p h (a.Ax.n*1)]=A (g a.Ax.n):=by have:=d.Ap (f:=EE g) (λ_=>B) (F9 x) (b:=0) (by grind);exact this
    let⟨I,q⟩:=CD (f:=N.c) (w:=2) (λ_=>B) (c.AD _ xc i).1 b
    have xk:AR 2 [g a.Ax.n,.n a.AD]=A (.p I (a.AD.n*2)):=by have:=q.ia;rwa[show a.AD.n=a.AD by omega]at this
    have xh:=q.AL (f:=N.c) (λ_=>B) b;simp only[QY,hp.2, *]
  .grind
def Kh(a:AK):C AF->Ae (C N)
 |[]=>A []
 |b::d=>match H0 a b,Kh a d with
  |some e,A c=>A (e::c)
  |_,_=>O
def Yu{d:AK}:∀{f:C _}{c:C N},Kh d f=A c->f.l=c.l/\∀{b:D}{e:AF},f[b]? =A e->∃i,H0 d e=A i/\c[b]? =A i
 |[],c,a=>by cases a;grind
 |e::k,c,a=>by
  unfold Kh at a
  cases h:H0 d e with
  |none=>rw[h]at a;cases a
  |some i=>
   cases g:Kh d k with
   |none=>rw[h,g]at a;cases a
   |some o=>
    rw[h,g]at a
    cases a
    let⟨m,n⟩:=Yu g
    refine⟨by grind,λ{b}{l} j=> ?_⟩
    cases b with
    |zero=>cases j;grind
    |succ b=>grind
def gk{xt:T->Bm}{xm:D}{m:T}{U:AK}{xr xq xf xh:F}{xp xg:D->F}(xb:C6 xt e xm m U xr xq xf xh xp xg)(b:C AF){r:C N}(J:Kh U b=A r)(xz:b.l<1000000):∃d u,W9 (pos 87) [.p m 0,Z AF.c b] e=A (d,u)/\Aw u d N.c 2 r/\AH e u/\Dx e d:=by
 let⟨xk,xj⟩:=Yu J
 let⟨d,a,z,q,o,l⟩:=Dh (h:=b.l) (f:=λk d a=>jj W9 87 2 [.n b.l,Z AF.c b,.p m 0,.n k,d] a) (g:=λk d a=>Aw a d N.c 2 (r.t k)/\AH e a/\Dx e d)
  (λk d a X xd=>by
   let⟨q,o,l⟩:=xd
   let⟨g,W⟩:=Bb X
   let⟨xa,J,xl⟩:=xj W
   have v:=Cm X;have xs:A9 2 a [.pi (AF.c g)]=A (.S (AF.c g)):=B;have M:AX 2 (a.V (.I 2 [.n 0,.n 0])) [.p a.next 0,.S (AF.c g)]=A (AC,a.V (.I 2 (AF.c g))):=ET B B;have t:AH a (a.V (.I 2 (AF.c g))):=AH.V _ _;have E:(a.V (.I 2 (AF.c g))).M a.next=A (.I 2 (AF.c g)):=by grind
   have xw:∀(S:F->G->R),bl (.p a.next 0) (a.V (.I 2 [.n 0,.n 0])) S=S (.p a.next 0) (a.V (.I 2 [.n 0,.n 0])):=λ_=>B;generalize c:a.next=j at E M;generalize a.V (.I 2 (AF.c g))=xx at t E M;have xu:=E;let⟨xy,xn,xc⟩:=Nc (xb.ext (o.AI t)) g J
   have P:=t.AI xc;have xA:(r.t k).l<=k:=by grind
   let⟨xv,xi,xo,Y,V,xe⟩:=FJ (f:=N.c) (w:=2) (b:=xa) (o:=.S (N.c xa)) (h:=16) (λ_=>B) B B (q.ext P) (DG (by omega))
   rw[FL xl]at Y;have p:=o.AI P;refine⟨xv,xi,?_,Y,λj c=>⟨(V.M (p.lv c) (l j c)).t (p.M c),V.lv (p.lv c) (l j c)⟩,λj c=>xe j (p.lv c) (l j c)⟩;show jj W9 87 2 _ _=jj W9 87 2 _ _;rw[S7.2.2.1];simp only[QY,xw,v,S7.2.2.2.1,IE W,xs,c,M,xu,xn,xo,S7.2.2.2.2,Bh (a:=k) (by omega)])
  (b:=.sn) (a:=e) ⟨Aw.sn e,λj c=>⟨B,c⟩,λj _=>Cg j⟩
 have z:jj W9 87 2 [.n b.l,Z AF.c b,.p m 0,.n 0,.sn] e=jj W9 87 2 [.n b.l,Z AF.c b,.p m 0,.n b.l,d] a:=z;have v:=CA b.l;rw[xk,Gz]at q;refine⟨d,a,AZ B B ?_,q,o,l⟩;rw[S7.1];simp only[↓H (DF AF.c b)];rw[z,S7.2.2.1];simp only[↓Q,↓QT,AdM,v,S7.2.1]
def lq{z:T->Bm}{v:D}{k f:T}{i:AK}{x n s:F}{w q:D->F}(l:C6 z a v k i y x n s w q)(r:a.M f=A (.I 1 [.p k 0]))(j:Lv a f)(c:AF){g:N}(u:H0 i c=A g)(b:AH a e):∃h,W9 (pos 147) [.S (AF.c c),.p f 0] e=A (.b (!Ao (g.Ak=0)),h)/\AH a h:=by
 let⟨Q,E,I,H,d,p,M,P⟩:=box e (.I 2 (AF.c c))
 have S:=(d.M (b.lv j)).t ((b.M j).t r);have R:=p;let⟨t,J,m⟩:=Nc (l.ext (b.AI d)) c u
 have o:=MD g;refine⟨t,AZ B B ?_,b.AI (d.AI m)⟩;rw[sd];simp only[QY,o.H B, *]
def lr{E:T->Bm}{w:D}{i:AK}{z p t:F}{x:D->F}(m:C6 E a w l i z y p t x r)(s:a.M g=A (.I 1 [.p l 0]))(k:Lv a g)(c:AF){d:N}(v:H0 i c=A d)(b:AH a f):∃h,W9 (pos 148) [.S (AF.c c),.p g 0] f=A (.b (Ao (d.Ak=0)),h)/\AH a h:=by
 let⟨R,H,J,I,e,q,P,Q⟩:=box f (.I 2 (AF.c c))
 have U:=(e.M (b.lv k)).t ((b.M k).t s);have S:=q;let⟨u,M,n⟩:=Nc (m.ext (b.AI e)) c v
 have j:=MD d;refine⟨u,AZ B B ?_,b.AI (e.AI n)⟩;generalize Ao (d.Ak=0)=o at j⊢;rw[se];cases o<;>simp only[QY,j.H B,QB, *]
def Hi(a:AK)(b:AF):Ah:= !Ao (((H0 a b).g AO).Ak=0)
def FH(b:AK)(a:Au)(d:K):Ah:=
 if d>0 then Aa
 else if a.op=8\/a.op=9 then(match a.A3 with|c::_=>Hi b c|[]=>Aa)
 else if a.op=6 then a.A3.any (Hi b)
 else a.A3.all (Hi b)
def AaL{xf:T->Bm}{c:G}{xa:D}{J f t:T}{d:AK}{xe xd V X:F}{xc W:D->F}(n:C6 xf c xa J d xe xd V X xc W){b:Au}(q:c.M f=A (.I 1 [.p J 0]))(I:Lv c f)(y:c.M t=A (.I 4 (Au.c b)))(xl:Lv c t)(xj:b.A3.l<1000000)(e:∀a∈b.A3,∃l,H0 d a=A l)(xi:b.op=8\/b.op=9->b.A3≠[])(w:K)(Y:¬w>0):∃z,jj W9 97 3 [.p t 0,.p f 0] c=A (.b (FH d b w),z)/\AH c z:=by
 have M:=y;have N:=y;have Q:=q;unfold FH;rw[Ad Y];have R:TW (AH c) (pos 147) [.p f 0] b.A3 (Hi d):=λa r u o=>by
  let⟨l,e⟩:=e a r
  let⟨m,xb,p⟩:=lq n q I a e o
  refine⟨m,?_,p⟩;unfold Hi;rw[e];grind
 have S:TW (AH c) (pos 148) [.p f 0] b.A3 (λa=> !Hi d a):=λa r u o=>by
  let⟨l,e⟩:=e a r
  let⟨m,xb,p⟩:=lr n q I a e o
  refine⟨m,?_,p⟩;show W9 (pos 148) [.S (AF.c a),.p f 0] u=A (.b (!Hi d a),m);unfold Hi;rw[e,Bool.not_not];grind
 by_cases g:b.op=8\/b.op=9
 .rw[Af g]
  cases xk:b.A3 with
  |nil=>grind
  |cons a xm=>
   let⟨l,E⟩:=e a (by grind)
   let⟨h,j,k⟩:=Nc n a E
   have x:=MD l;have H:AR 2 [Z AF.c b.A3,.n 0]=A (.pi (AF.c a)):=IE (a:=0) (by grind);have P:A9 2 c [.pi (AF.c a)]=A (.S (AF.c a)):=B;refine⟨h,?_,k⟩;show _=A (F.b (Hi d a),h);unfold Hi;rw[E,Np.2.1];rcases g with g|g;.simp only[QY,M,g,Np.2.2.2,Q,N,H,P,j,x.H B];rfl
   .simp only[QY,Int.reduceEq,M,g,Np.2.2.2,Q,N,H,P,j,x.H B];rfl
 .rw[Ad g];have xg:¬b.op=8:=by grind
  have xh:¬b.op=9:=by grind
  by_cases v:b.op=6
  .rw[Af v];let⟨h,j,k⟩:=YG R (by omega) c (λf s=>⟨B,s⟩)
   refine⟨h,?_,k⟩;rw[Np.2.1];simp only[QY,Int.reduceEq,Np.2.2.2, *]
  .rw[Ad v];let⟨h,j,k⟩:=YG S (by omega) c (λf s=>⟨B,s⟩)
   rw[P_ (Hi d)]at j;generalize b.A3.all (Hi d)=U at j⊢;refine⟨h,?_,k⟩;rw[Np.2.1];cases U<;>simp only[QY,Np.2.2.2,Np.2.2.1,QB, *]
def rb{xC:T->Bm}{d:G}{xx:D}{q c:T}{g:AK}{xB xA N xn:F}{xz xm:D->F}(xi:C6 xC d xx c g xB xA N xn xz xm){n:C Ab}{xE:C F}(xo:d.M q=A (.I 6 (Z Ab.c n::xE)))(xy:Lv d q){J m:D}{e:Ab}{b:Au}{j:K}(xr:g.Bc=J)(xs:n[J]? =A e)(U:e.Av[m]? =A b)(S:g.AS[m]? =A j)(xu:b.A3.l<1000000)(xw:∀xl∈b.A3,∃xD,H0 g xl=A xD)(xq:b.op=8\/b.op=9->b.A3≠[]):∃P,W9 (pos 97) [.p q 0,.p c 0,.n m] d=A (.b (FH g b j),P)/\AH d P:=by
 let⟨z,a,xv,xt,s,u,x,xG⟩:=box d (.I 1 [.p c 0])
 have xg:∀(i:F->G->R),bl (.p d.next 0) (d.V (.I (Bq (F.I (.p c 0))) (F.I (.p c 0)))) i=i (.p z 0) a:=Dy d (.I 1 [.p c 0]) xv xt;have E:=xi.ext s;have xf:a.Ap q 0=A (Z Ab.c n):=Ay ((s.M xy).t xo) 0;have xc:a.Ap z 0=A (.p c 0):=Ay u 0;have xb:a.Ap c 0=A (.n g.Bc):=Ay E.M 0;have W:AR 5 [Z Ab.c n,.n g.Bc]=A (.pi (Ab.c e)):=by rw[xr];exact CB xs
 have M:Bl 2 [.pi (Ab.c e)]=A (.pi ((Ab.c e).d 2)):=B;have Y:AM a [.pi ((Ab.c e).d 2)]=A (Z Au.c e.Av):=B;have X:A9 4 a [.pi (Au.c b)]=A (.S (Au.c b)):=B;have p:AX 4 (a.V (.I 4 [.i .u8 0,.s [],.n 0,.sn])) [.p a.next 0,.S (Au.c b)]=A (AC,a.V (.I 4 (Au.c b))):=ET B B;have h:AH a (a.V (.I 4 (Au.c b))):=AH.V _ _;have v:(a.V (.I 4 (Au.c b))).M a.next=A (.I 4 (Au.c b)):=by grind
 have y:Lv (a.V (.I 4 (Au.c b))) a.next:=by grind
 have xh:∀(i:F->G->R),bl (.p a.next 0) (a.V (.I 4 [.i .u8 0,.s [],.n 0,.sn])) i=i (.p a.next 0) (a.V (.I 4 [.i .u8 0,.s [],.n 0,.sn])):=λ_=>B;generalize V:a.next=xH at v y p;generalize a.V (.I 4 (Au.c b))=k at h v y p;have r:=E.ext h;have xd:k.Ap z 0=A (.p c 0):=Ay ((h.M x).t u) 0;have xa:k.Ap c 6=A N:=Ay r.M 6;let⟨xk,t⟩:=CD (f:=Be) (w:=1) (λ_=>B) r.AS S
 have xe:AM k [.p xk (m*1)]=A (.n j):=by have:=t.Ap (f:=Be) (λ_=>B) S (b:=0) (by grind);exact this
 have I:=s.AI h;by_cases l:j>0;.refine⟨k,AZ B B ?_,I⟩;unfold FH;rw[Af l,Np.1];simp only[↓xg,↓xh,↓H M,↓H Y,↓Q,↓QT,↓H xf,↓H xc,↓H xb,↓H W,↓H (Fa U),↓H X,V,↓H p,↓H xd,↓H xa,↓H t.ia,↓H xe,l]
 .let⟨xp,xF,xj⟩:=AaL r ((h.M x).t u) (h.lv x) v y xu xw xq j l
  refine⟨xp,AZ B B ?_,I.AI xj⟩;rw[Np.1];simp only[↓xg,↓xh,↓H M,↓H Y,↓Q,↓QT,AdM,↓H xf,↓H xc,↓H xb,↓H W,↓H (Fa U),↓H X,V,↓H p,↓H xd,↓H xa,↓H t.ia,↓H xe,l];grind
structure Ai where
 Ac:C AK
 Am:C AE
 round:K
 AA:K
structure Lm where
 r:T
 cv:F
 mv:F
 cs:D->F
 ws:D->F
 pc:D->T
 pv:D->F
 ov:D->F
 fv:D->F
 gv:D->F
 og:D->D->F
 gg:D->D->F
def TB(b:D->T)(a:D):C F:=[.p (b a) 0]
structure EB(e:T->Bm)(c:G)(k:C Ab)(i:C Bx)(j:D)(f:T)(d:Ai)(a:Lm):Prop where
 M:c.M f=A (.I 6 [Z Ab.c k,.m a.r,a.cv,a.mv,.n d.round,.n d.AA])
 lv:Lv c f
 B3:e f=.Ex
 Bn:c.M a.r=A (.Bn i j)
 GM:Lv c a.r
 F0:e a.r=.Bn
 Ac:Aw c a.cv (TB a.pc) 1 (List.range d.Ac.l)
 Ir:Tg e a.cv .Ac
 Am:CY c a.mv a.cs a.ws d.Am
 Is:∀h,B8 a.mv a.cs a.ws d.Am.l h->e h=.Am
 BC:∀(b:D) g,d.Ac[b]? =A g->C6 e c b (a.pc b) g (a.pv b) (a.ov b) (a.fv b) (a.gv b) (a.og b) (a.gg b)
def EB.Ar{j:T->Bm}{h i:G}{n:C Ab}{k:C Bx}{m:D}{e:Ai}{f:Lm}(a:EB j h n k m g e f)(c:∀b,Lv h b->j b≠.C5->i.M b=h.M b/\Lv i b):EB j i n k m g e f where
 M:=(c g a.lv (by rw[a.B3];decide)).1.t a.M
 lv:=(c g a.lv (by rw[a.B3];decide)).2
 B3:=a.B3
 Bn:=(c f.r a.GM (by rw[a.F0];decide)).1.t a.Bn
 GM:=(c f.r a.GM (by rw[a.F0];decide)).2
 F0:=a.F0
 Ac:=a.Ac.Ar λb d s=>c b d (by rw[a.Ir b s];decide)
 Ir:=a.Ir
 Am:=a.Am.Ar λb d q=>c b d (by rw[a.Is b q];decide)
 Is:=a.Is
 BC:=λr o p=>(a.BC r o p).Ar λb d l=>by have:=c b d (by intro e;rw[e]at l;exact l);exact⟨this.1,this.2,B⟩
def EB.ext{i:T->Bm}{d:G}{h:C Ab}{c:C Bx}{g:D}{k:T}{b:Ai}{j:Lm}(l:EB i d h c g k b j)(a:AH d e):EB i e h c g k b j:=l.Ar λm f _=>⟨a.M f,a.lv f⟩
