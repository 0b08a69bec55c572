/- Part of the proof. -/
import Derived.Test.YtbmnfifnenajjaaGreatMbd
set_option linter.all false
noncomputable section
open Option renaming some->A,none->O,getD->Option.g,bind->Option.b
open _root_ renaming rfl->B,List->C,Nat->D,Int->K,if_neg->Ad,if_pos->Af,Option->Ae,Bool->Ah,cond->Aj,decide_eq_true->A0,decide_eq_false->A2,absurd->BF
open Bool renaming true->L,false->Aa
open Decidable renaming decide->Ao
open Nat renaming beq->AW,ble->BX,le_refl->CK
open List renaming replicate->BG,length->List.l,take->List.t,drop->List.d,flatMap->List.f
open Go.IntKind renaming i64->Go.IntKind.n
open Array renaming toList->Array.l
open Eq renaming trans->Eq.t,symm->Eq.s
open Or renaming inl->Or.i,inr->Or.j
open Int renaming toNat->Int.n
namespace Go.Proofs.YtbmnfifnenajjaaGreat
open Go.Fg
structure P1(e:C AE)(c:T)(b:F)(d f:D->F)(a:G):Prop where
 M:CY a b d f e
 gx:a.M c=A (.I 1 [b])
 lx:Lv a c
 nx:¬B8 b d f e.l c
variable{f:G}{h:F}{i:D->F}
def P1.Ar{g:C _}{c:T}{d:D->F}{e:G}(b:P1 g c h d i e)(j:∀a,Lv e a->a=c\/B8 h d i g.l a->f.M a=e.M a/\Lv f a):P1 g c h d i f where
 M:=b.M.Ar P
 gx:=(j c b.lx P).1.t b.gx
 lx:=(j c b.lx P).2
 nx:=b.nx
def P1.add{b:C AE}{d:T}{n f:F}{j:D->F}{k:G}(o:P1 b d n i j k){p:AE}(Z:Aw k f N.c 2 p.I)(xa:Aw k h BJ.c 2 p.AV)(Q:Cn f h)(U:∀r,r=d\/B8 n i j b.l r->As f r/\As h r)(W:b.l<1000000):
  ∃c e l,(∀(E:F×G->R),((Dq 1 2 k.next [.S [f,h]]).b λa=>(DN 2 48 (G.V k a.1) [n,a.2]).b E)=E (c,e))/\AX 1 e [.p d 0,c]=A (AC,l)/\l.M d=A (.I 1 [c])/\
   P1 (b++[p]) d c (BW i b.l f) (BW j b.l h) l/\(∀a,Lv k a->a≠d->¬B8 n i j b.l a->l.M a=k.M a/\Lv l a/\(As f a->As h a->¬B8 c (BW i b.l f) (BW j b.l h) (b++[p]).l a)):=by
 have t:∀{z:F},(∀a,¬As z a->B8 n i j b.l a)->Cn z f/\Cn z h:=λy=>⟨Cn.of P,Cn.of λa m=>(U a (.j (y a m))).2⟩
 have S:=t (z:=n) λa m=>.i m
 let⟨c,e,y,s,H,xb⟩:=o.M.Es Z xa Q P S.2 (λg q=>by have xc:=t (z:=i g) λa m=>.j ⟨g,q,.i m⟩;have xd:=t (z:=j g) λa m=>.j ⟨g,q,.j m⟩;grind) W
 have xj:=E_.1 o.nx
 have J:=TL ((H.M o.lx P).t o.gx) (Cr s.o).1 (Cr s.o).2
 have V:∀a,a≠d->(e.set d (.I 1 [c])).M a=e.M a:=λa x=>by rw[AN,Ad x]
 have w:(e.set d (.I 1 [c])).M d=A (.I 1 [c]):=by rw[AN,Af B]
 have I:∀a,Lv (e.set d (.I 1 [c])) a=Lv e a:=by grind
 generalize e.set d (.I 1 [c])=l at J V w I
 have xh:(b++[p]).l=b.l+1:=by simp
 have X:∀a,Lv k a->As n a->(∀g,g<b.l->As (i g) a/\As (j g) a)->As f a->As h a->¬B8 c (BW i b.l f) (BW j b.l h) (b++[p]).l a:=λa x e l xf xg=>by
  refine E_.2 ⟨P,λg q=> ?_⟩;by_cases v:g=b.l;.subst v;rw[Ec,Ec];grind
  .rw[CE v,CE v];grind
 have Y:=X d o.lx P P P P
 refine⟨c,e,l,y,J,w,?_,λa x xi q=> ?_⟩
 .exact{M:=s.Ar P,gx:=w,lx:=by rw[I];exact H.lv o.lx P,nx:=Y}
 .have xe:=E_.1 q;grind
theorem jC(c:T)(a b:N):Dq 2 2 c [.S (N.c a),.S (N.c b)]=A (.I 4 ([a,b].f N.c),.Z c 0 2 3 2):=rfl
def iL(a:G)(b c:N):Aw (a.V (.I 4 ([b,c].f N.c))) (.Z a.next 0 2 3 2) N.c 2 [b,c]:=.j ⟨a.next,3,B,P,P,P⟩
def EY(c a d:K)(b:Ah):N:=if a<d then JJ (c+a)else if b=L then D4 else AO
def gl(d c k:K)(j:Ah)(p:0<=d/\d<=1000000)(o:0<=c/\c<=10000000):AY 125 [.n d,.n c,.n k,.b j] (.S (N.c (EY d c k j))):=Bu B B B (by
 have n:=F2 (a:=d) (b:=c) (by omega) (by omega);have h:∀e:N,AX 2 (G.Aq.V (.I 2 [.i .u8 0,.n 0])) [.p .h 0,.S (N.c e)]=A (AC,(G.Aq.V (.I 2 [.i .u8 0,.n 0])).set .h (.I 2 (N.c e))):=λe=>Gb (by rfl) B B;have g:∀e:N,((G.Aq.V (.I 2 [.i .u8 0,.n 0])).set .h (.I 2 (N.c e))).AL .h 0 2=A (N.c e):=λe=>BB (by rw[AN,Af B]);have m:G.Aq.next=.h:=B;generalize l:G.Aq.V (.I 2 [.i .u8 0,.n 0])=i at h g;rw[hf.1];unfold EY;by_cases f:c<k;.rw[Af f];refine⟨i.set .h (.I 2 (N.c (JJ (d+c)))),?_⟩;simp only[QY,(fI (d+c)).H B,H (h _),H (g _), *]
 .rw[Ad f]
  cases j with
  |true=>refine⟨i.set .h (.I 2 (N.c D4)),?_⟩;simp only[QY,m,l,reduceIte,f,QB,ai.H B,h _,g _]
  |false=>refine⟨i.set .h (.I 2 (N.c AO)),?_⟩;simp only[↓Q,m,l,↓reduceIte,↓QT,AdM,f,QB,hf.2,↓QE,↓H (h _),↓H (g _)])
def Jd(b d:K)(a:Ah):D->C K->C AE
 |_,[]=>[]
 |c,f::e=>⟨[EA f,EY b (c+1:D) d a],[]⟩::Jd b d a (c+1) e
def a4(d e:K)(c:Ah)(f:K):∀(b:C _)(a:D),Jd d e c a (b++[f])=Jd d e c a b++[⟨[EA f,EY d (a+b.l+1:D) e c],[]⟩]
 |[],a=>rfl
 |g::b,a=>by show _::Jd _ _ c (a+1) (b++[f])=_::(Jd d e c (a+1) b++_);rw[a4 d e c f b (a+1),Aec,show a+1+b.l+1=a+(b.l+1)+1 by omega]
def U5(d e:K)(b:Ah):∀(a:C _)(c:D),(Jd d e b c a).l=a.l
 |[],c=>rfl
 |f::a,c=>by show(Jd _ _ b _ a).l+1=_;rw[U5 _ _ b a _];rfl
def NV(b:C AE×C N)(a:C K×Ah):C AE×C N:=(b.1++Jd b.1.l a.1.l a.2 0 a.1,b.2++[EY b.1.l 0 a.1.l a.2])
def Kp(a:C (C K×Ah)):C AE×C N:=a.foldl NV ([],[])
variable{a:D}
def Y4{b:C _}{c:C _×Ah}(d:b[a]? =A c):Kp (b.t (a+1))=NV (Kp (b.t a)) c:=by unfold Kp;rw[<-FL d,Af0];rfl
def D3:C (C K)->D
 |[]=>0
 |a::b=>a.l+D3 b
def TO{c:C (C K)}{b:C K}(e:c[a]? =A b):D3 (c.t (a+1))=D3 (c.t a)+b.l:=by
 induction c generalizing a with
 |nil=>grind
 |cons d f g=>
  cases a with
  |zero=>cases e;show b.l+0=0+b.l;omega
  |succ a=>show d.l+D3 _=d.l+D3 (f.t a)+b.l;grind
def cD{b:C (C K)}(a:D):D3 (b.t a)<=D3 b:=by
 induction b generalizing a with
 |nil=>simp
 |cons d c e=>
  cases a with
  |zero=>exact AeA _
  |succ a=>show d.l+D3 (c.t a)<=d.l+D3 c;grind
def Uj{b:C (C K)}{c:C Ah}:∀{a:D},a<=b.l->b.l=c.l->(Kp ((b.zip c).t a)).1.l=D3 (b.t a)/\(Kp ((b.zip c).t a)).2.l=a
 |0,_,_=>⟨B,B⟩
 |a+1,k,e=>by
  let⟨h,f⟩:=Bb (b:=b) (a:=a) (by omega)
  let⟨d,j⟩:=Bb (b:=c) (a:=a) (by omega)
  have g:(b.zip c)[a]? =A (h,d):=by grind
  have m:=Uj (b:=b) (c:=c) (a:=a) (by omega) e;rw[Y4 g,TO f];unfold NV;simp only[AdY,U5,AeE];omega
def I7(a:K):Ah:=BK a (-1000000000) 1000000000
theorem Mm{d:Type}(c:G)(b:C K)(a:F->Ae d):(AM c [.pi (Cv b)]).b a=a (Z Be b):=rfl
theorem XB{d:Type}(c:G)(b:K)(a:F->Ae d):(AM c [.pi (Be b)]).b a=a (.n b):=rfl
theorem XA{d:Type}(c:G)(b:Ah)(a:F->Ae d):(AM c [.pi (CN b)]).b a=a (.b b):=rfl
theorem tt(b:G)(a:C K):Bv .Cq [.pi (Cv a)] b (Z Be a)=L:=L0 _
theorem ts(b:G)(a:Ah):Bv .Cq [.pi (CN a)] b (.b a)=L:=L0 _
section
variable(t:C (C K)) (u:C Ah)
theorem dx{a:T}{b:G}(c:b.M a=A (.I 1 [.sn])):AX 1 b [.p a 0,.S [.sn]]=A (AC,b.set a (.I 1 [.sn]))/\(b.set a (.I 1 [.sn])).AL a 0 1=A [.sn]:=⟨Gb c B B,BB (by rw[AN,Af B])⟩
theorem WG:Cb [.sn] [] []=A (.S [.sn]):=rfl
theorem rB{c:T}{g:D}{h:C K}(n:t[g]? =A h)(s:h.l<=2000000)(k:K){b:G}(p:b.M c=A (.I 1 [.sn])):(h.all I7=L->∃a,jj W9 74 14 [.n 0,.n k,.n g,Z Cv t,Z CN u,.p c 0] b=jj W9 74 13 [.n k,.n g,Z Cv t,Z CN u,.p c 0] a/\a=b)/\(h.all I7=Aa->∃a,jj W9 74 14 [.n 0,.n k,.n g,Z Cv t,Z CN u,.p c 0] b=A (.AB [.S [.sn],.sn,.n 3],a)):=by
 let⟨q,r⟩:=dx p
 refine a7 (e:=λl b=>jj W9 74 14 [.n l,.n k,.n g,Z Cv t,Z CN u,.p c 0] b) ?_ ?_ ?_ b B;.intro l j a f e m;subst e;have o:=Cm (AdN.1 f).1;have d:=Lz j (-1000000000) 1000000000;rw[show BK j (-1000000000) 1000000000=L from m]at d;refine⟨a,?_,B⟩;rw[FW.2.2.2.2.2.2.2.1];simp only[QY,I9 n,Mm,o,FW.2.2.2.2.2.2.2.2.1,UJ f,XB,d.H B,FW.2.2.2.2.2.2.2.2.2.1,Bh (a:=l) (by omega)]
 .intro l j a f e m;subst e;have d:=Lz j (-1000000000) 1000000000;rw[show BK j (-1000000000) 1000000000=Aa from m]at d;refine⟨a.set c (.I 1 [.sn]),?_⟩;rw[FW.2.2.2.2.2.2.2.1];simp only[QY,I9 n,Mm,(Cm (AdN.1 f).1),FW.2.2.2.2.2.2.2.2.1,UJ f,XB,d.H B,WG,q,r]
 .intro a e;subst e;rw[FW.2.2.2.2.2.2.2.1];simp only[Q,QT,AdM,H (I9 n),Mm,(CA h.l)]
theorem AaB(N:t.l<=2000000)(z:∀c∈t,c.l<=2000000){h:T}{e:G}(x:e.M h=A (.I 1 [.sn])):(t.all (λc=>c.all I7)=L/\jj W9 74 11 [.n 0,.n 0,Z Cv t,Z CN u,.p h 0] e=jj W9 74 10 [.n (D3 t),Z Cv t,Z CN u,.p h 0] e)\/(t.all (λc=>c.all I7)=Aa/\∃f,jj W9 74 11 [.n 0,.n 0,Z Cv t,Z CN u,.p h 0] e=A (.AB [.S [.sn],.sn,.n 3],f)):=by
 refine MU (f:=t.l) (d:=λg (d:D) e=>jj _ _ 11 [.n g,.n d,Z Cv t,Z CN u,.p h 0] e) (e:=λg d f=>f=e/\d=D3 (t.t g)/\d<=g*2000000/\(t.t g).all (λc=>c.all I7)=L)
  (g:=λw=>(t.all (λc=>c.all I7)=L/\w=jj W9 74 10 [.n (D3 t),Z Cv t,Z CN u,.p h 0] e)\/(t.all (λc=>c.all I7)=Aa/\∃f,w=A (.AB [.S [.sn],.sn,.n 3],f))) ?_ ?_ (b:=0) ⟨B,B,by omega,B⟩
 .intro g d f v m
  obtain⟨rfl,k,y,j⟩:=m
  let⟨c,l⟩:=Bb v
  have E:=z c P
  have r:=Cm v
  let⟨J,M⟩:=rB t u l E d x
  cases o:c.all I7 with
  |true=>
   obtain⟨q,p,rfl⟩:=J o;left;refine⟨d+c.l,q,?_,B,by rw[TO l,k],by omega,?_⟩;.rw[FW.2.2.2.1];simp only[Q,QT,r,FW.2.2.2.2.1,p,FW.2.2.2.2.2.2.1,H (I9 l),Mm,H (F2 (a:=d) (b:=c.l) (by omega) (by omega)),FW.2.2.2.2.2.1,H (Bh (a:=g) (by omega)),AfD]
   .rw[<-FL l,AeG,j,Aer,o];rfl
  |false=>
   let⟨q,p⟩:=M o
   right;right;refine⟨?_,q,?_⟩;.grind
   .rw[FW.2.2.2.1];simp only[Q,QT,r,FW.2.2.2.2.1,p]
 .intro d f m;obtain⟨rfl,k,y,j⟩:=m;rw[Gz]at k j;subst k;left;refine⟨j,?_⟩;rw[FW.2.2.2.1];simp only[Q,QT,AdM,(CA t.l)]
end
structure Hj(i:G)(h:T)(c:C AE×C N)(f e:F)(d g:D->F)(b:G):Prop where
 B:P1 c.1 h f d g b
 ou:Aw b e N.c 2 c.2
 ux:∀a,¬As e a->a≠h/\¬B8 f d g c.1.l a
 BO:∀a,Lv i a->b.M a=i.M a/\Lv b a/\a≠h/\¬B8 f d g c.1.l a/\As e a
theorem Aaw{t:C (C K)}{u:C Ah}{I:G}{l W:T}{p g j:D}{k:C K}{o:Ah}{f:K}(xi:t[p]? =A k)(xh:u[p]? =A o)(U:k[g]? =A f)(xr:k.l<=2000000){h:C AE×C N}(xt:h.1.l<=400)(xq:j<=400){y r:F}{w E:D->F}{a:G}(c:Hj I l h y r w E a):
  ∃z xb xn S,jj W9 74 5 [.n g,r,.n j,.n p,Z Cv t,Z CN u,.p l 0,.p W 0] a=jj W9 74 5 [.n (g+1:D),r,.n j,.n p,Z Cv t,Z CN u,.p l 0,.p W 0] S/\
   Hj I l (h.1++[⟨[EA f,EY j (g+1:D) k.l o],[]⟩],h.2) z r xb xn S:=by
 have xa:=Cm (AdN.1 U).1
 have R:=gl j (g+1:D) k.l o (by omega) (by omega)
 generalize xs:EY j (g+1:D) k.l o=n at R
 have v:AH a (a.V (.I 4 ([EA f,n].f N.c))):=AH.V _ _
 have x:=iL a (EA f) n
 have J:∀b,Lv a b->As (.Z a.next 0 2 3 2) b:=λb d=>EN λxc=>by subst xc;exact EX a d
 have xm:=jC a.next (EA f) n
 have xd:Cb [.sn,.sn] [(0,1)] [.Z a.next 0 2 3 2]=A (.S [.Z a.next 0 2 3 2,.sn]):=B
 generalize xp:F.Z a.next 0 2 3 2=Y at x J xm xd
 generalize xg:a.V (.I 4 ([EA f,n].f N.c))=xe at v x
 let⟨z,xo,xf,xj,xw,_,X,M⟩:=(c.B.Ar λb d _=>⟨v.M d,v.lv d⟩).add (p:=⟨[EA f,n],[]⟩) x (Aw.sn xe) (Ku _) (λe m=>⟨J e ((λe m=>by
  rcases m with rfl|m;.exact c.B.lx
  .exact c.B.M.lv m:∀e,e=l\/B8 y w E h.1.l e->Lv a e) e m),Cg e⟩) (by omega)
 refine⟨z,BW w h.1.l Y,BW E h.1.l .sn,xf,?_,?_⟩
 .rw[FW.2.2.2.2.2.2.2.2.2.2.2.2.2.2.2.2.1];simp only[Q,QT,H (I9 xi),Mm,xa,FW.2.2.2.2.2.2.2.2.2.2.2.2.2.2.2.2.2.1,H (Ay c.B.gx 0),H (UJ U),XB,(Sz f).H B,(Ij c.B.gx B:Bv .Cq [.p l 0] a y=L),tt,ts,Lq,H (Bh (a:=g) (by omega)),H (Uf xh),XA,R.H B,xg,xj,FW.2.2.2.2.2.2.2.2.2.2.2.2.2.2.2.2.2.2,ZR, *]
 .exact{
  B:=X
  ou:=c.ou.Ar λb d q=>by have:=c.ux b q;grind
  ux:=λb q=>by have d:=c.ou.Cz q;have:=c.ux b q;exact⟨P,(M b P P P).2.2 P (Cg b)⟩
  BO:=λb d=>by
   let⟨xu,xv,V,xk,xl⟩:=c.BO b d
   exact⟨P,P,V,(M b P V xk).2.2 P (Cg b),xl⟩}
theorem tq{t:C (C K)}{u:C Ah}{n:G}{e m:T}{g:D}{b:C K}{d:Ah}(S:t[g]? =A b)(xb:u[g]? =A d)(xu:g<3000000){a:C AE×C N}(xv:a.1.l+b.l<=400)(xw:a.2.l<3000000){U k:F}{E W:D->F}{j:G}(o:Hj n e a U k E W j):∃V z J X p,jj W9 74 2 [Z Cv t,Z CN u,.n g,.p e 0,k,.p m 0] j=jj W9 74 2 [Z Cv t,Z CN u,.n (g+1:D),.p e 0,z,.p m 0] p/\Hj n e (NV a (b,d)) V z J X p:=by
 have xe:=Cp o.B.M.o;rw[Ad0]at xe;obtain⟨⟨xf,xa,xg⟩,xh,R,h⟩:=Dh
  (g:=λl v j=>Hj n e (a.1++Jd a.1.l b.l d 0 (b.t l),a.2) v.1 k v.2.1 v.2.2 j)
  (λl v j xk o=>by
   obtain⟨xr,xd⟩:=Bb xk;have xl:(a.1++Jd a.1.l b.l d 0 (b.t l)).l<=400:=by rw[AdY,U5,Aef];omega
   obtain⟨V,J,X,p,M,xs⟩:=Aaw (W:=m) (j:=a.1.l) S xb xd (by omega) xl (by omega) o;refine⟨(V,J,X),p,M,?_⟩;have xj:=a4 a.1.l b.l d xr (b.t l) 0;rw[FL xd,Aef,show min l b.l=l by omega,Ad2]at xj;grind)
  (b:=(U,E,W)) (by rw[Af1];show Hj n e (a.1++[],a.2) U k E W j;rw[Ad5];grind)
 have R:jj W9 74 5 [.n 0,k,.n a.1.l,.n g,Z Cv t,Z CN u,.p e 0,.p m 0] j=jj W9 74 5 [.n b.l,k,.n a.1.l,.n g,Z Cv t,Z CN u,.p e 0,.p m 0] xh:=R;rw[Gz]at h;obtain⟨z,xi,xn,xq,xt,Y⟩:=FJ (w:=2) (b:=EY a.1.l 0 b.l d) (o:=.S (N.c (EY a.1.l 0 b.l d))) (λ_=>B) B B h.ou (DG (by show(a.2.l+1)*16<=_;omega));have xm:∀c,c=e\/B8 xf xa xg (a.1++Jd a.1.l b.l d 0 b).l c->As k c:=λc q=>AdS λr=>by
  have:=h.ux c r;rcases q with rfl|q;.grind
  .grind
 refine⟨xf,z,xa,xg,xi,?_,?_⟩;.rw[FW.2.2.2.2.2.2.2.2.2.2.2.2.1];simp only[QY,(Cm (AdN.1 S).1),FW.2.2.2.2.2.2.2.2.2.2.2.2.2.1,Ay o.B.gx 0,xe];rw[R,FW.2.2.2.2.2.2.2.2.2.2.2.2.2.2.2.2.1];simp only[Q,QT,AdM,H (I9 S),Mm,(CA b.l),FW.2.2.2.2.2.2.2.2.2.2.2.2.2.2.2.1,H (Uf xb),XA,(gl a.1.l 0 b.l d (by omega) (by omega)).H B,xn,FW.2.2.2.2.2.2.2.2.2.2.2.2.2.2.1,H (Bh (a:=g) (by omega))]
 .exact{
  B:=h.B.Ar P
  ou:=xq
  ux:=λc r=>by
   constructor;.intro M;subst M;exact r (Y c h.B.lx P)
   .intro xc;exact r (Y c (h.B.M.lv xc) (xm c (.j xc)))
  BO:=λc q=>by
   let⟨xx,xy,xo,xp,xz⟩:=h.BO c q
   exact⟨P,P,xo,xp,P⟩}
def Co(t:C (C K))(u:C Ah):C AE×C N×K:=
 if t.l≠u.l then([],[],2)
 else if t.all (λa=>a.all I7)=Aa then([],[],3)
 else if 400<D3 t then([],[],5)
 else((Kp (t.zip u)).1,(Kp (t.zip u)).2,0)
theorem o1{a:G}{f e:F}{d:C AE}{c:C N}(g:Fz 3 a f (Z AE.c d))(h:Aw a e N.c 2 c)(b:K):Fz 5 a (.AB [.S [f],e,.n b]) (.AB [.S (Bp d),Z N.c c,.n b]):=
 Fz.AB (Cw.cons (Fz.S (Cw.cons g (Cw.nil _ _))) (Cw.cons ((Fz.Cs (h:=2) (λ_=>B) (λ_=>B) h).up (by omega)) (Cw.cons ((Fz.im B).up (by omega)) (Cw.nil _ _))))
theorem qF(t:C (C K))(u:C Ah)(xG:t.l<=2000000)(xn:∀v∈t,v.l<=2000000):AY 74 [Z Cv t,Z CN u] (.AB [.S (Bp (Co t u).1),Z N.c (Co t u).2.1,.n (Co t u).2.2]):=by
 have Y:G.Aq.next=.h:=B;generalize U:G.Aq.V (.I 1 [.sn])=a;have q:a.M .h=A (.I 1 [.sn]):=by grind
 have xs:Lv a .h:=by grind
 let⟨xa,xb⟩:=dx q
 have z:∀(c:K),(∃T,xx W9 74 [Z Cv t,Z CN u] G.Aq=A (.AB [.S [.sn],.sn,.n c],T))->AY 74 [Z Cv t,Z CN u] (.AB [.S (Bp []),Z N.c [],.n c]):=λc b=>by
  let⟨T,b⟩:=b
  exact EV B B b B
 unfold Co;by_cases E:t.l=u.l
 .rw[Ad Om];have o:t.l=u.l:=by omega
  have xc:∀{m:R},jj W9 74 11 [.n 0,.n 0,Z Cv t,Z CN u,.p .h 0] a=m->xx W9 74 [Z Cv t,Z CN u] G.Aq=m:=λ{m} c=>by rw[FW.1];simp only[↓Q,↓QT,Y,U,o,FW.2.1];grind
  rcases AaB t u (by omega) xn q with⟨J,c⟩|⟨J,S,c⟩
  .rw[J,Ad (by grind)];have j:=Ew .n (D3 t) 400;by_cases H:400<D3 t;.rw[A0 (by omega)]at j;rw[Af H];refine z 5 ⟨a.set .h (.I 1 [.sn]),xc ?_⟩;rw[c,FW.2.2.1];simp only[QY,j,WG,xa,xb]
   .rw[A2 (by omega)]at j;rw[Ad H];have xe:AH a (a.V (.I 1 [.sn])):=AH.V _ _;have r:(a.V (.I 1 [.sn])).M a.next=A (.I 1 [.sn]):=by grind
    have w:Lv (a.V (.I 1 [.sn])) a.next:=by grind
    have y:AX 1 (a.V (.I 1 [.sn])) [.p a.next 0,.S [.sn]]=A (AC,a.V (.I 1 [.sn])):=ET B B;have xt:¬Lv a a.next:=EX _;generalize xq:a.next=h at r w y xt;generalize xm:a.V (.I 1 [.sn])=k at xe r w y;let⟨⟨g,xd,xk,xA⟩,b,p,e⟩:=Dh (h:=t.l) (f:=λd (f:F×F×(D->F)×(D->F)) b=>jj W9 74 2 [Z Cv t,Z CN u,.n d,.p h 0,f.2.1,.p .h 0] b)
     (g:=λd f b=>Hj a h (Kp ((t.zip u).t d)) f.1 f.2.1 f.2.2.1 f.2.2.2 b)
     (λd f b V e=>by
      let⟨v,W⟩:=Bb V
      let⟨xi,xo⟩:=Bb (b:=u) (a:=d) (by omega)
      have xr:(t.zip u)[d]? =A (v,xi):=by grind
      let⟨xI,xJ⟩:=Uj (a:=d) (by omega) E
      have xK:=TO W;have xL:=cD (b:=t) (d+1);obtain⟨xz,xy,xl,xB,S,c,xE⟩:=tq W xo (by omega) (by omega) (by omega) e;refine⟨(xz,xy,xl,xB),S,c,?_⟩;rw[Y4 xr];grind)
     (b:=(.sn,.sn,λ_=>.sn,λ_=>.sn)) ({
     B:={M:=CY.nil _ _ _,gx:=r,lx:=w,nx:=E_.2 ⟨Cg _,P⟩}
     ou:=Aw.sn k
     ux:=λx X=>BF (Cg x) X
     BO:=λx xH=>⟨P,P,P,E_.2 ⟨Cg _,λd V=>by grind⟩,Cg x⟩}:Hj a h ([],[]) .sn .sn (λ_=>.sn) (λ_=>.sn) k)
    have p:jj W9 74 2 [Z Cv t,Z CN u,.n 0,.p h 0,.sn,.p .h 0] k=jj W9 74 2 [Z Cv t,Z CN u,.n t.l,.p h 0,xd,.p .h 0] b:=p;rw[Aeq (by grind)]at e;let⟨xu,xM,xN,xO,xP⟩:=e.BO .h xs
    have xh:BU [g]=L:=by rw[DJ];simp[(Cr e.B.M.o).2]
    have xw:=BB e.B.gx;have xC:=Gb (xu.t q) B xh;have xD:(b.set .h (.I 1 [g])).AL .h 0 1=A [g]:=BB (by rw[AN,Af B]);have xj:=CA t.l;have xf:CY (b.set .h (.I 1 [g])) g xk xA (Kp (t.zip u)).1:=e.B.M.Ar λxv xp xF=>⟨by rw[AN,Ad P],by grind⟩;have xg:Aw (b.set .h (.I 1 [g])) xd N.c 2 (Kp (t.zip u)).2:=e.ou.Ar λxv xp X=>⟨by rw[AN,Ad P],by grind⟩;refine Fz.Oc B B (xc ?_) (o1 xf.fz xg 0) (by omega);rw[c,FW.2.2.1];simp only[QY,j,FW.2.2.2.2.2.2.2.2.2.2.1,WG,xq,xm,y];rw[p,FW.2.2.2.2.2.2.2.2.2.2.2.2.1];simp only[QY,xj,FW.2.2.2.2.2.2.2.2.2.2.2.1,xw,xC,xD]
  grind
 .rw[Af E];have o:¬t.l=(u.l:K):=by omega
  refine z 2 ⟨a.set .h (.I 1 [.sn]),?_⟩;rw[FW.1];simp only[QY,Y,U,o,WG,xa,xb]
variable{b:G}{g:F}
def eq{o:Type}{d:o->C F}{c m:D}(M:∀n,(d n).l=c)(J:∀n,BU (d n)=L){a:C o}(v:Aw b g d c a)(T:a.l*m<=GA):∃j h,DN c m (b.V (.I 0 [])) [.Z b.next 0 0 1 c,g]=A (j,h)/\Aw h j d c a/\AH b h/\Dx b j:=by
 let⟨j,h,q,N,r,x⟩:=Vv (f:=d) (w:=c) (c:=[]) (a:=a) (i:=m) M (Rw b d c) (by grind)
 have p:AH b (b.V (.I 0 [])):=AH.V _ _;have y:∀e,Lv b e->As (.Z b.next 0 0 1 c) e:=λe i=>EN λq=>by subst q;exact EX b i
 have P:=v.ext p;have z:∀a:C o,BU (a.f d)=L:=λa=>by
  induction a with
  |nil=>rfl
  |cons n U s=>rw[DJ]at s⊢;rw[Aeh,AeG,s,<-DJ,J];rfl
 refine⟨j,h,?_,N,λe i=> ?_,λe i=>x e (p.lv i) (y e i)⟩
 .show(match Ii g with|some t=>(match F7 (b.V (.I 0 [])) c t g with|some u=>Aj (BU u) (Jo (b.V (.I 0 [])) c m (.Z b.next 0 0 1 c) t u) O|none=>O)|none=>O)=_;have r:Ii g=A a.l:=by rcases v with⟨rfl,rfl⟩|⟨k,E,rfl,_⟩<;>rfl
  have H:F7 (b.V (.I 0 [])) c a.l g=A (a.f d):=by
   rcases P with⟨rfl,rfl⟩|⟨k,E,rfl,R,I,S⟩;.rfl
   .show Aj (AW c c&&BX a.l a.l) (Aj (AW a.l 0) (A []) ((b.V (.I 0 [])).AL k 0 (a.l*c))) O=_;rw[Aee,AdX (CK _)];show Aj (AW a.l 0) (A []) ((b.V (.I 0 [])).AL k 0 (a.l*c))=_;by_cases Q:a.l=0
    .have:a=[]:=by grind
     subst this;rfl
    .rw[Gm Q];show(b.V (.I 0 [])).AL k 0 (a.l*c)=_;rw[D1 I,Af (by omega),Af B]
  rw[r];simp only[H];rw[z];grind
 .grind
theorem e0:HI Aa [.sn,.sn]=A (.b L):=rfl
theorem eZ(a:T)(d c b e:D):HI Aa [.Z a d c b e,.sn]=A (.b Aa):=rfl
def pG{a:G}{d:C N}(q:Aw a g N.c 2 d)(s:d.l<1000000):∃c b,W9 (pos 177) [g] a=A (c,b)/\Aw b c N.c 2 d/\AH a b/\Dx a c:=by
 rcases q with⟨rfl,rfl⟩|⟨i,j,p,l,m,n⟩;.refine⟨.sn,a,AZ B B ?_,Aw.sn a,λe o=>⟨B,o⟩,λe _=>Cg e⟩;rw[aP.1];simp only[QY,e0]
 .subst p;let⟨c,b,t,r,k,h⟩:=eq (d:=N.c) (c:=2) (m:=16) (λ_=>B) (λ_=>B) (.j ⟨i,j,B,l,m,n⟩) (DG (by omega))
  refine⟨c,b,AZ B B ?_,r,k,h⟩;rw[aP.1];simp only[QY,H (eZ _ _ _ _ _),aP.2,H (NT 2 _), *]
def pH{a:G}{d:C BJ}(q:Aw a g BJ.c 2 d)(s:d.l<1000000):∃c b,W9 (pos 178) [g] a=A (c,b)/\Aw b c BJ.c 2 d/\AH a b/\Dx a c:=by
 rcases q with⟨rfl,rfl⟩|⟨i,j,p,l,m,n⟩;.refine⟨.sn,a,AZ B B ?_,Aw.sn a,λe o=>⟨B,o⟩,λe _=>Cg e⟩;rw[aQ.1];simp only[QY,e0]
 .subst p;let⟨c,b,t,r,k,h⟩:=eq (d:=BJ.c) (c:=2) (m:=16) (λ_=>B) (λ_=>B) (.j ⟨i,j,B,l,m,n⟩) (DG (by omega))
  refine⟨c,b,AZ B B ?_,r,k,h⟩;rw[aQ.1];simp only[QY,H (eZ _ _ _ _ _),aQ.2,H (NT 2 _), *]
def IX.Cs{o:Type}{c:o->C _}{g:G}{k:F}{j:C _}(d:∀b,(c b).l=a)(f:Aw g k c a j):IX (AH g) k a j (λb=>.S (c b)) (A9 a)where
 A7:=Cp f
 Zp:=λq b e=>by
  let⟨m,h⟩:=CD d f e
  refine⟨_,h.ia,λp l=> ?_⟩;let⟨n,i⟩:=CD d (f.ext l) e
  have:n=m:=by have:=i.ia;rw[h.ia]at this;cases this;rfl
  subst this;rw[F5,i.AL d e];rfl
def ls{c:T}{b:K}(h:0<=b/\b<=1000000000)(k:f.M c=A (.I 1 [.n b]))(i:Lv f c)(l:C N):M4 (AH f) (pos 206) [.p c 0] l (λa=>.S (N.c a)) (λa=> !Hd a b):=λa _ e d=>by have g:=W_ a b h;rw[<-Ph a h.1]at g;refine⟨e.V (.I 2 (N.c a)),AZ B B ?_,d.AI (AH.V _ _)⟩;have m:(e.V (.I 2 (N.c a))).Ap c 0=A (.n b):=Ay ((I6 (d.lv i) _).t ((d.M i).t k)) 0;show xx W9 206 [.S (N.c a),.p c 0] e=A (.b (!Hd a b),_);generalize Hd a b=j at g⊢;rw[st];cases j<;>simp only[QY,QV,g.H B,QB, *]
def lt{k:G}{j:T}{m xa:F}{e:AE}(xb:e.I.l<=100)(U:k.M j=A (.I 2 [m,xa]))(X:Lv k j)(Y:Aw k m N.c 2 e.I)(W:C BJ):M4 (AH k) (pos 208) [.p j 0] W (λh=>.S (BJ.c h)) (λc=> !(BK c.B0 0 (e.I.l-1)&&Ao (((e.I[c.B0.n]?).g AO).Ak=0))):=λc _ d P=>by
 have s:AH d (d.V (.I 2 (BJ.c c))):=AH.V _ _
 have z:(d.V (.I 2 (BJ.c c))).M d.next=A (.I 2 (BJ.c c)):=by grind
 have r:∀(I:F->G->R),bl (.p d.next 0) (d.V (.I (Bq (F.I (.S (BJ.c c)))) (F.I (.S (BJ.c c))))) I=I (.p d.next 0) (d.V (.I 2 (BJ.c c))):=λ_=>B
 generalize d.V (.I 2 (BJ.c c))=g at s z r
 have p:=P.AI s
 have u:g.Ap d.next 0=A (.n c.B0):=Ay z 0
 have x:g.Ap j 0=A m:=Ay ((p.M X).t U) 0
 have M:=Y.ext p
 have J:=Cp M
 have y:=FA (a:=e.I.l) (b:=1) (by omega) (by omega)
 have o:=N9 c.B0 0 (e.I.l-1)
 refine⟨g,AZ B B ?_,p⟩
 show xx W9 208 [.S (BJ.c c),.p j 0] d=A (.b (!(BK c.B0 0 (e.I.l-1)&&Ao (((e.I[c.B0.n]?).g AO).Ak=0))),g)
 rw[sv]
 cases n:BK c.B0 0 (e.I.l-1)with
 |false=>rw[n]at o;simp only[↓r,↓Q,↓QV,↓QT,↓H u,↓H x,↓H J,↓H y,↓o.H B,QB]
 |true=>
  rw[n]at o;unfold BK at n;simp only[AdO,AdV]at n;let⟨h,q⟩:=Bb (b:=e.I) (a:=c.B0.n) (by omega)
  let⟨v,t⟩:=CD (f:=N.c) (w:=2) (λ_=>B) M q
  have V:AR 2 [m,.n c.B0]=A (.p v (c.B0.n*2)):=by have:=t.ia;rwa[show c.B0.n=c.B0 by omega]at this
  have Z:g.AL v (c.B0.n*2) 2=A (N.c h):=t.AL (f:=N.c) (λ_=>B) q;have E:=UB h;rw[q];show _=A (F.b (!(L&&Ao (h.Ak=0))),g);generalize Ao (h.Ak=0)=S at E⊢;cases S<;>simp only[↓r,↓Q,↓QV,↓QT,↓H u,↓H x,↓H J,↓H y,↓o.H B,QB,↓H V,↓H Z,↓E.H B]
variable{d:G}
def Dy(a:G)(c:BV){e:T}(g:a.next=e)(f:a.V c=d)(b:F->G->R):bl (.p a.next 0) (a.V c) b=b (.p e 0) d:=by subst g f;rfl
variable{c:G}{e:F}
def pF(b:AE)(xd:b.I.l<=100/\b.AV.l<=6000)(xe:Aw c e N.c 2 b.I)(xf:Aw c g BJ.c 2 b.AV)(a:K)(xa:0<=a/\a<=1000000000):∃E,W9 (pos 176) [.S [e,g],.n a] c=A (.b (KK a b),E)/\AH c E:=by
 have j:AH c (c.V (.I 2 [e,g])):=AH.V _ _
 have q:(c.V (.I 2 [e,g])).M _=A (.I 2 [e,g]):=HM _ _
 have n:Lv (c.V (.I 2 [e,g])) c.next:=P
 generalize Y:c.V _=d at j q n
 generalize xb:c.next=z at q n
 have T:∀(k:F->G->R),bl _ (c.V (.I (Bq (F.I (.S [e,g]))) (F.I (.S [e,g])))) k=k (.p z 0) d:=Dy c (.I 2 [e,g]) xb Y
 have h:AH d (d.V (.I 1 [.n a])):=AH.V _ _
 have s:(d.V (.I 1 [.n a])).M d.next=A (.I 1 [.n a]):=HM _ _
 have x:Lv (d.V (.I 1 [.n a])) d.next:=E9 _ _
 generalize Z:d.V (.I 1 [.n a])=o at h s x
 generalize xc:d.next=xh at s x
 have U:∀(k:F->G->R),bl (.p d.next 0) (d.V (.I (Bq (F.I (.n a))) (F.I (.n a)))) k=k (.p xh 0) o:=Dy d (.I 1 [.n a]) xc Z
 have r:=(h.M n).t q
 have v:=h.lv n
 have y:=(xe.ext j).ext h
 have S:=Cp y
 have I:o.Ap z 0=A e:=Ay r 0
 have M:¬(b.I.l:K)>100:=by omega
 let⟨p,l,i⟩:=M7 Uk SJ (IX.Cs (c:=N.c) (a:=2) (λ_=>B) y) (ls xa s x b.I) (by omega) o (λxg t=>⟨B,t⟩)
 rw[P_ (λxj=>Hd xj a)]at l
 let⟨W,u,V⟩:=M7 mb ry (IX.Cs (c:=BJ.c) (a:=2) (λ_=>B) (((xf.ext j).ext h).ext i)) (lt xd.1 ((i.M v).t r) (i.lv v) (y.ext i) b.AV) (by omega) p (λxg t=>⟨B,t⟩)
 rw[P_ (λm:BJ=>BK m.B0 0 (b.I.l-1)&&Ao (((b.I[m.B0.n]?).g AO).Ak=0))]at u
 unfold KK
 cases J:b.I.all (λxi=>Hd xi a)with
 |false=>rw[J]at l;refine⟨p,AZ B B ?_,j.AI (h.AI i)⟩;rw[aO.1];simp only[↓T,↓U,↓Q,↓QT,AdM,↓H I,↓H S,M,↓H l,QB]
 |true=>rw[J]at l;generalize(b.AV.all λm=>BK m.B0 0 (b.I.l-1)&&Ao (((b.I[m.B0.n]?).g AO).Ak=0))=X at u;refine⟨W,AZ B B ?_,j.AI (h.AI (i.AI V))⟩;rw[aO.1];cases X<;>simp only[↓T,↓U,↓Q,↓QT,AdM,↓H I,↓H S,M,↓H l,QB,aO.2,↓H (Ay ((i.M v).t r) 1:p.Ap z 1=A g),↓H u]
def b_:∀(d:C _)(a:D),BH (d.t a)<=BH d
 |[],a=>by simp
 |c::b,0=>AeA _
 |c::b,a+1=>by show c.AV.l+BH (b.t a)<=c.AV.l+BH b;have:=b_ b a;omega
structure Ff(b:C AE)(i:C Bz)(e:T)(d c:F)(f g:D->F)(a:G):Prop where
 M:CY a d f g b
 ot:Aw a c Bz.c 3 i
 gx:a.M e=A (.I 3 [d,.n (BH b:K),c])
 lx:Lv a e
 nx:¬B8 d f g b.l e
 tx:As c e
 tm:∀h,¬As c h->¬B8 d f g b.l h
def Ta(b c d a:F):Dg 0 [a] [b,c,d]=[a,c,d]/\Dg 1 [a] [b,c,d]=[b,a,d]/\Dg 2 [a] [b,c,d]=[b,c,a]:=⟨B,B,B⟩
structure TY(i:C AE)(h:G)(e:T)(c:D)(d:F)(f g:D->F)(b:G):Prop where
 M:CY b d f g (i.t c)
 gx:b.M e=A (.I 3 [d,.n (BH (i.t c):K),.sn])
 lx:Lv b e
 nx:¬B8 d f g c e
 BO:∀a,Lv h a->b.M a=h.M a/\Lv b a/\¬B8 d f g c a/\a≠e
variable{l:F}
def Aap{e:C AE}(xN:EW e)(x6:I1 e=0){Y:G}{J:F}{k j:D->F}(xl:CY Y J k j e){I g:T}(x3:Y.M I=A (.I 1 [J]))(yf:Lv Y I){c:D}{n:AE}(r:e[c]? =A n){y S:D->F}(h:TY e Y g c l y S f):∃s xZ yt xJ,jj W9 119 2 [.n e.l,J,.p I 0,.n c,.p g 0] f=jj W9 119 2 [.n e.l,J,.p I 0,.n (c+1:D),.p g 0] xJ/\TY e Y g (c+1) s xZ yt xJ:=by
 have xL:c<e.l:=by grind
 have yE:=xN.1;have x9:=xN.at r;have xX:=Cm xL;have x7:KK e.l n=L/\BH e<=6000:=by unfold I1 at x6;grind
 have xc:CY f J k j e:=xl.Ar λp xg _=>⟨(h.BO p xg).1,(h.BO p xg).2.1⟩;let⟨yA,yb,yr,_,_,_⟩:=xc.at xL
 have X:AH f (f.V (.I 2 [k c,j c])):=AH.V _ _;have xe:(f.V (.I 2 [k c,j c])).M f.next=A (.I 2 [k c,j c]):=P;have xq:Lv (f.V (.I 2 [k c,j c])) f.next:=E9 _ _;have xT:BU [k c,j c]=L:=by rw[DJ];simp[(Cr (xc.c c n r)).2,(Cr (xc.w c n r)).2]
 have xu:AX 2 (f.V (.I 2 [.sn,.sn])) [.p f.next 0,.S [k c,j c]]=A (AC,f.V (.I 2 [k c,j c])):=ET B xT;have yy:∀(xh:F->G->R),bl (.p f.next 0) (f.V (.I 2 [.sn,.sn])) xh=xh (.p f.next 0) (f.V (.I 2 [.sn,.sn])):=λ_=>B;have xR:¬Lv f f.next:=EX _;generalize xg:f.next=p at xe xq xu xR;generalize f.V (.I 2 [k c,j c])=w at X xe xq xu;have yw:g≠p:=λz=>xR (z▸h.lx);have yC:=Ya r;have yD:=b_ e (c+1);have yg:=Cp (xc.w c n r);have xD:=F2 (a:=(BH (e.t c))) (b:=n.AV.l) (by omega) (by omega);rw[show(BH (e.t c))+n.AV.l=((BH (e.t (c+1)):D):K) by omega]at xD;have xG:=(X.M h.lx).t h.gx;have yi:=X.lv h.lx;have xv:=Gx (d:=1) (a:=.n (BH (e.t (c+1)))) xG (by omega) (by omega) B B;rw[(Ta _ _ _ _).2.1]at xv;have yu:w.Ap g 1=A (.n (BH (e.t c))):=Ay xG 1;have yp:w.Ap p 1=A (j c):=Ay xe 1;have xr:∀d,d≠g->(w.set g (.I 3 [l,.n (BH (e.t (c+1))),.sn])).M d=w.M d:=λd m=>by rw[AN,Ad m]
 have Z:(w.set g (.I 3 [l,.n (BH (e.t (c+1))),.sn])).M g=A (.I 3 [l,.n (BH (e.t (c+1))),.sn]):=by rw[AN,Af B]
 have xj:∀d,Lv (w.set g (.I 3 [l,.n (BH (e.t (c+1))),.sn])) d=Lv w d:=P;generalize w.set g (.I 3 [l,.n (BH (e.t (c+1))),.sn])=q at xv xr Z xj;have xk:∀d,Lv f d->d≠g->q.M d=f.M d/\Lv q d:=λd m ya=>⟨(xr d ya).t (X.M m),by rw[xj];exact X.lv m⟩;have xf:=(xr p (λz=>yw z.s)).t xe;have xi:Lv q p:=by rw[xj];exact xq
 have xa:Lv q g:=by rw[xj];exact yi
 have xm:CY q J k j e:=xl.Ar λd m _=>by have:=h.BO d m;exact⟨(xk d this.2.1 this.2.2.2).1.t this.1,(xk d this.2.1 this.2.2.2).2⟩
 have yv:q.Ap g 1=A (.n (BH (e.t (c+1)))):=Ay Z 1;have xY:¬(BH (e.t (c+1)):K)>6000:=by omega
 have yo:q.Ap I 0=A J:=by have:=h.BO I yf;exact Ay ((xk I this.2.1 this.2.2.2).1.t (this.1.t x3)) 0
 have xP:=Cp xl.o;rw[Ad0]at xP;have ys:q.AL p 0 2=A [k c,j c]:=BB xf;let⟨xo,xO,t⟩:=pF n x9 (xm.c c n r) (xm.w c n r) (e.l:K) (by omega)
 rw[x7.1]at xO;have xz:=xm.ext t;have yx:xo.Ap g 0=A l:=Ay ((t.M xa).t Z) 0;have yq:xo.Ap p 0=A (k c):=Ay ((t.M xi).t xf) 0;let⟨x,xK,yc,xs,xb,x2⟩:=pG (xz.c c n r) (by omega)
 let⟨N,U,yd,xS,xy,xF⟩:=pH ((xz.ext xb).w c n r) (by omega)
 have xx:AH q U:=t.AI (xb.AI xy);have xH:=(xx.M xa).t Z;have xQ:=xx.lv xa;have x1:Cb [.sn,.sn] [(0,1),(1,1)] [x,N]=A (.S [x,N]):=by rcases xs with⟨rfl,_⟩|⟨_,_,rfl,_⟩<;>rcases xS with⟨rfl,_⟩|⟨_,_,rfl,_⟩<;>rfl
 have xM:(e.t c).l=c:=by grind
 have yk:=h.nx;rw[<-xM]at yk;have xE:∀d,Lv f d->As x d/\As N d:=λd m=>by
  have yG:Lv q d:=by grind
  exact⟨x2 d P,xF d P⟩
 have xn:∀{xw:F},(∀d,¬As xw d->B8 l y S (e.t c).l d)->Cn xw x/\Cn xw N:=λxh=>⟨Cn.of λd E=>(xE d (h.M.lv P)).1,Cn.of λd E=>(xE d (h.M.lv P)).2⟩;have xC:=xn (xw:=l) λd E=>.i E;let⟨s,V,ye,xd,x0,yz⟩:=(h.M.Ar P:CY U l y S (e.t c)).Es (xs.ext xy) xS (xF.Kt xs:Cn x N) xC.1 xC.2 (λW xp=>by have xA:=xn (xw:=y W) λd E=>.j ⟨W,xp,.i E⟩;have xB:=xn (xw:=S W) λd E=>.j ⟨W,xp,.j E⟩;exact⟨xA.1,xB.1,xA.2,xB.2⟩) (by omega)
 rw[xM,FL r]at xd;have ym:=E_.1 h.nx;have xt:=Gx (d:=0) (a:=s) ((x0.M xQ ym.1).t xH) (by omega) (by omega) (Cr xd.o).1 (Cr xd.o).2;rw[(Ta _ _ _ _).1]at xt;have yn:∀d,d≠g->(V.set g (.I 3 [s,.n (BH (e.t (c+1)):K),.sn])).M d=V.M d:=λd m=>by rw[AN,Ad m]
 have xI:(V.set g (.I 3 [s,.n (BH (e.t (c+1)):K),.sn])).M g=A (.I 3 [s,.n (BH (e.t (c+1)):K),.sn]):=by rw[AN,Af B]
 have yh:∀d,Lv (V.set g (.I 3 [s,.n (BH (e.t (c+1)):K),.sn])) d=Lv V d:=P;generalize V.set g (.I 3 [s,.n (BH (e.t (c+1)):K),.sn])=x5 at xt yn xI yh;have yj:∀d,Lv f d->Lv U d->¬B8 l y S c d->¬B8 s (BW y c x) (BW S c N) (c+1) d:=λd m yF x8=>by
  have x4:=E_.1 x8;refine E_.2 ⟨P,λW xp=> ?_⟩;by_cases z:W=c;.subst z;rw[Ec,Ec];grind
  .rw[CE z,CE z];grind
 have yl:=yj g h.lx xQ P;have yH:(e.t (c+1)).l=c+1:=by grind
 refine⟨s,BW y c x,BW S c N,x5,?_,?_⟩;.rw[Pj.2.2.2.1];simp only[↓Q,↓QT,AdM,xX,Pj.2.2.2.2.1,↓H yb,↓H yr,↓yy,xg,↓H xu,↓H yu,↓H yp,↓H yg,↓H xD,↓H xv,↓H yv,xY,↓H ys,↓H yo,↓H xP,↓H xO,QB,Pj.2.2.2.2.2.2,↓H yx,↓H yq,↓H yc,(Ij ((xb.M (t.lv xa)).t ((t.M xa).t Z)) B:Bv .Cq [.p g 0] xK l=L),↓Lq,↓H (Ay ((xb.M (t.lv xi)).t ((t.M xi).t xf)) 1:xK.Ap p 1=A (j c)),(Ij ((t.M xi).t xf) B:Bv .Cq [.p p 1] xo (j c)=L),↓H yd,(Ij xH B:Bv .Cq [.p g 0] U l=L),↓H x1,↓ye,↓H xt,Pj.2.2.2.2.2.1,↓H (Bh (a:=c) (by omega))]
 .exact{
  M:=xd.Ar P
  gx:=xI
  lx:=by grind
  nx:=yl
  BO:=λd m=>by
   let⟨yB,xU,xV,xW⟩:=h.BO d m
   have xh:=(P:∀d,Lv f d->d≠g->U.M d=f.M d/\Lv U d) d xU xW;have x4:=E_.1 xV;grind}
def fG{b:C AE}(V:EW b)(xk:I1 b=0){d:F}{xe xs:D->F}(T:CY c d xe xs b):∃e t q u y,W9 (pos 119) [.S [d]] c=A (.AB [.p e 0,.n 0],y)/\Ff b [] e t .sn q u y/\AH c y/\(∀g,Lv c g->g≠e/\¬B8 t q u b.l g):=by
 have xv:=V.1;have m:AH c (c.V (.I 1 [d])):=AH.V _ _;have v:(c.V (.I 1 [d])).M c.next=A (.I 1 [d]):=by grind
 have w:Lv (c.V (.I 1 [d])) c.next:=by grind
 generalize xi:c.V (.I 1 [d])=a at m v w;generalize xl:c.next=l at v w;have xt:∀(r:F->G->R),bl (.p c.next 0) (c.V (.I (Bq (F.I (.S [d]))) (F.I (.S [d])))) r=r (.p l 0) a:=Dy c (.I 1 [d]) xl xi;have xf:Cb [.sn,.n 0,.sn] [] []=A (.S [.sn,.n 0,.sn]):=B;have o:AH a (a.V (.I 3 [.sn,.n 0,.sn])):=AH.V _ _;have J:(a.V (.I 3 [.sn,.n 0,.sn])).M a.next=A (.I 3 [.sn,.n 0,.sn]):=by grind
 have P:Lv (a.V (.I 3 [.sn,.n 0,.sn])) a.next:=by grind
 have X:¬Lv a a.next:=EX _;generalize xj:a.V (.I 3 [.sn,.n 0,.sn])=p at o J P;generalize xn:a.next=e at J P X;have xu:∀(r:F->G->R),bl (.p a.next 0) (a.V (.I (Bq (F.I (.S [.sn,.n 0,.sn]))) (F.I (.S [.sn,.n 0,.sn])))) r=r (.p e 0) p:=Dy a (.I 3 [.sn,.n 0,.sn]) xn xj;have xg:=(o.M w).t v;have xa:=(T.ext m).ext o;have W:=Cp xa.o;rw[Ad0]at W;have xp:p.Ap l 0=A d:=Ay xg 0;have xb:¬(b.l:K)>400:=by omega
 have xw:l≠e:=by grind
 have Z:TY b a e 0 .sn (λ_=>.sn) (λ_=>.sn) p:={
  M:=CY.nil _ _ _,gx:=J,lx:=P,nx:=E_.2 ⟨Cg _,λk N=>by grind⟩
  BO:=λg j=>⟨o.M j,o.lv j,E_.2 ⟨Cg _,λk N=>by grind⟩,λz=>X (z▸j)⟩}
 let⟨⟨t,q,u⟩,i,E,f⟩:=Dh (h:=b.l) (f:=λk (_:F×(D->F)×(D->F)) i=>jj W9 119 2 [.n (b.l:K),d,.p l 0,.n (k:K),.p e 0] i) (g:=λk x i=>TY b a e k x.1 x.2.1 x.2.2 i)
  (λk x i N f=>by
   let⟨xx,xm⟩:=Bb N
   let⟨xq,xd,xr,xh,z,Y⟩:=Aap V xk (T.ext m) v w xm f
   exact⟨(xq,xd,xr),xh,z,Y⟩)
  (b:=(.sn,λ_=>.sn,λ_=>.sn)) (a:=p) Z
 have E:jj W9 119 2 [.n (b.l:K),d,.p l 0,.n 0,.p e 0] p=jj W9 119 2 [.n (b.l:K),d,.p l 0,.n (b.l:K),.p e 0] i:=E;have f:TY b a e b.l t q u i:=f;have S:=f.M;have U:=f.gx;rw[Gz]at S U;have xc:=CA b.l;refine⟨e,t,q,u,i,AZ B B ?_,{M:=S,ot:=Aw.sn i,gx:=U,lx:=f.lx,nx:=f.nx,tx:=Cg _,tm:=λg xo=>BF (Cg g) xo},?_,?_⟩;.rw[Pj.1];simp only[↓xt,↓H xf,↓xu,↓Q,↓QT,AdM,↓H xp,↓H W,xb,Pj.2.1];rw[E,Pj.2.2.2.1];simp only[↓Q,↓QT,AdM,xc,Pj.2.2.1]
 .intro g j;have:=f.BO g (m.lv j);grind
 .intro g j;have:=f.BO g (m.lv j);grind
def NP(g:T)(e d:F)(b f:D->F)(c:D)(a:T):Prop:=a=g\/B8 e b f c a\/¬As d a
def Ff.Ar{i:C _}{n:C Bz}{c:T}{k:F}{e m:D->F}{g:G}(a:Ff i n c l k e m f)(d:∀b,Lv f b->NP c l k e m i.l b->g.M b=f.M b/\Lv g b):Ff i n c l k e m g where
 M:=a.M.Ar λj h o=>d j h (.j (.i o))
 ot:=a.ot.Ar λj h p=>d j h (.j (.j p))
 gx:=(d c a.lx (.i B)).1.t a.gx
 lx:=(d c a.lx (.i B)).2
 nx:=a.nx
 tx:=a.tx
 tm:=a.tm
def Ff.ext{d:C _}{f:C Bz}{i:T}{a h:D->F}(j:Ff d f i g e a h b)(k:AH b c):Ff d f i g e a h c:=j.Ar λm l _=>k m l
def Ff.t0{e:C _}{k:C Bz}{j:T}{c:D->F}(b:Ff e k j h g c i d){f:T}(a:NP j h g c i e.l f):Lv d f:=by
 rcases a with rfl|a|a;.exact b.lx
 .exact b.M.lv a
 .exact b.ot.Cz a
def box(a:G)(d:BV):∃c b,a.next=c/\a.V d=b/\AH a b/\b.M c=A d/\Lv b c/\¬Lv a c:=⟨_,_,B,B,AH.V _ _,HM _ _,E9 _ _,EX _⟩
def Ko(a:G)(c:N){e:T}(g:a.next=e)(f:a.V (.I 2 (N.c c))=d)(b:F->G->R):bl (.p a.next 0) (a.V (.I (Bq (F.I (.S (N.c c)))) (F.I (.S (N.c c))))) b=b (.p e 0) d:=Dy a _ g f b
def Jp(a:G){d:T}(f:a.next=d)(e:a.V (.I 2 [.i .u8 0,.n 0])=c)(b:F->G->R):bl (.p a.next 0) (a.V (.I 2 [.i .u8 0,.n 0])) b=b (.p d 0) c:=Dy a _ f e b
def f6{g:C AE}(xt:EW g){xD:C Bz}{t:T}{J xC:F}{n xE:D->F}{j:G}(xi:Ff g xD t J xC n xE j)(d c:N)(xd:Kd g d):(G0 g d c=Aa->∃o,W9 (pos 259) [.p t 0,.S (N.c d),.S (N.c c)] j=A (.pn,o)/\AH j o)/\(G0 g d c=L->∃(e i:D)(h:AE)(u:N)(U:T)(o:G),d.n=e/\g[e]? =A h/\c.n=i/\h.I[i]? =A u/\O8 g d c=u/\Iq g d.n=A h/\AR 2 [n e,.n i]=A (.p U (i*2))/\W9 (pos 259) [.p t 0,.S (N.c d),.S (N.c c)] j=A (.p U (i*2),o)/\AH j o):=by
 let⟨xM,xa,xu,xr,xh,xm,xy,_⟩:=box j (.I 2 (N.c d))
 let⟨xN,k,xv,xs,M,Z,xL,_⟩:=box xa (.I 2 (N.c c))
 have xF:=Ko j d xu xr;have xG:=Ko xa c xv xs;have l:=xh.AI M;have v:=xi.ext l;have Y:=(M.M xy).t xm;have P:=Ay Y 0;have R:=Ay Y 1;have V:=Ay Z 0;have W:=Ay Z 1;have xg:k.Ap t 0=A J:=Ay v.gx 0;by_cases q:d.Ak=4
 .by_cases y:c.Ak=1
  .let⟨h,E⟩:=xd q
   let⟨e,xn,s⟩:=Mt E
   have xo:e<g.l:=by grind
   have xJ:=xt.at s;let⟨m,xK,_,I,_,_⟩:=v.M.at xo
   have xw:AR 2 [J,.n d.n]=A (.p m (e*2)):=by grind
   have xl:Bl 0 [.p m (e*2)]=A (.p m (e*2)):=B;have xz:AM k [.p m (e*2)]=A (n e):=I;have xf:=v.M.c e h s;have xA:=Cp xf;have xk:=FA (a:=h.I.l) (b:=1) (by omega) (by omega);have r:=N9 c.n 0 (h.I.l-1);have p:G0 g d c=BK c.n 0 (h.I.l-1):=by unfold G0 Sb;rw[E,A0 q,A0 y];rfl
   have xB:k.Ap m (e*2)=A (n e):=I;rw[p];constructor;.intro z;rw[z]at r;refine⟨k,AZ B B ?_,l⟩;rw[UY.1];simp only[QY,r.H B,QB, *]
   .intro z;have xq:G0 g d c=L:=by grind
    let⟨x,i,xO,u,xH,xc,xb,xe,xp,_,_,xI⟩:=Sw xd xq
    have:x=e:=by omega
    subst this;rw[s]at xc;cases xc;rw[z]at r;let⟨X,S⟩:=CD (f:=N.c) (w:=2) (λ_=>B) xf xe
    have xx:AR 2 [n x,.n c.n]=A (.p X (i*2)):=by rw[xb];exact S.ia
    refine⟨x,i,h,u,X,k,xn,s,xb,xe,xp,E,S.ia,AZ B B ?_,l⟩;rw[UY.1];simp only[↓xF,↓xG,↓Q,↓QT,AdM,↓H P,↓H V,q,y,↓H W,↓H xg,↓H R,↓H xw,↓H xl,↓H xz,↓H xA,↓H xk,↓r.H B,QS,QB,↓Lq,↓Up,P,R,V,W,xg,xB,I,UY.2,↓H xx]
  .have p:G0 g d c=Aa:=by unfold G0;rw[A2 y,AeO,Bool.and_false]
   rw[p];refine⟨λ_=>⟨k,AZ B B ?_,l⟩,λxj=>by grind⟩;rw[UY.1];simp only[QY,QB, *]
 .have p:G0 g d c=Aa:=by unfold G0;rw[A2 q,AeO]
  rw[p];refine⟨λ_=>⟨k,AZ B B ?_,l⟩,λxj=>by grind⟩;rw[UY.1];simp only[QY,QB, *]
def AH.Gw{a:G}(e:AH a b){c:T}(g:¬Lv a c)(d:BV):AH a (b.set c d):=λh f=>⟨by rw[AN,Ad P];grind,by grind⟩
def Gy{a:T}{f:C F}(e:b.M a=A (.I 2 f))(d:N):∃c,AX 2 b [.p a 0,.S (N.c d)]=A (AC,c)/\c.AL a 0 2=A (N.c d)/\c=b.set a (.I 2 (N.c d)):=⟨_,Gb e B B,BB (by rw[AN,Af B]),B⟩
def qa{c:C AE}(xd:EW c){X:C Bz}{t:T}{Y W:F}{w Z:D->F}(v:Ff c X t Y W w Z b)(a:N)(Q:Kd c a):∃o,W9 (pos 230) [.p t 0,.S (N.c a)] b=A (.S (N.c (L2 c a)),o)/\AH b o:=by
 let⟨xj,p,M,H,j,x,S,xi⟩:=box b (.I 2 (N.c a))
 let⟨xk,xb,P,I,k,z,xf,U⟩:=box p (.I 2 [.i .u8 0,.n 0])
 have xn:=Ko b a M H;have xo:=Jp p P I;have i:=j.AI k;have g:=v.ext i;have y:=(k.M S).t x;have xl:=y;have xm:=g.gx;let⟨q,f,e,n⟩:=Gy z (L2 c a)
 have u:AH b q:=by rw[n];exact i.Gw (λR=>U (j.lv R)) _
 refine⟨q,AZ B B ?_,u⟩;clear n;unfold L2 at f e⊢;by_cases h:a.Ak=4
 .let⟨s,r⟩:=Q h
  let⟨d,xc,J⟩:=Mt r
  have E:d<c.l:=by grind
  let⟨l,xe,_,V,_,_⟩:=g.M.at E
  have xa:Bl 0 [.p l (d*2)]=A (.p l (d*2)):=B;have xg:=V;have xh:=Cp (g.M.c d s J);rw[Ad (by grind),Af h,r]at f e⊢;rw[Xu.1];simp only[QY,(ab s.I.l).H B, *]
 .by_cases m:a.Ak=5;.rw[Af m]at f e⊢;rw[Xu.1];simp only[QY,Int.reduceEq, *]
  .rw[Ad m,Ad h]at f e⊢;rw[Xu.1];simp only[QY,Xu.2,(N_ 5).H B, *]
def VF:∀{h:C _}{c:D}{d:AE},h[c]? =A d->∀b:AE,BH (h.set c b)+d.AV.l=BH h+b.AV.l
 |[],c,d,g,_=>by grind
 |f::e,0,d,g,b=>by
  cases g
  show b.AV.l+BH e+f.AV.l=f.AV.l+BH e+b.AV.l;omega
 |f::e,c+1,d,g,b=>by show f.AV.l+BH (e.set c b)+d.AV.l=f.AV.l+BH e+b.AV.l;have:=VF (h:=e) (c:=c) (by simpa using g) b;omega
structure IU(b:G)(d:T)(k i:F)(e m:D->F)(g:D)(c:G)(l j:F)(f n:D->F)(h:D):Prop where
 fr:∀a,Lv b a->¬NP d k i e m g a->c.M a=b.M a/\Lv c a/\¬NP d l j f n h a
def IU.ext{h:T}{f:F}{a g:D->F}{d:D}(i:AH b c):IU b h f e a g d c f e a g d:=⟨P⟩
theorem Zy(a:T)(b:D):Gq L [.p a b,.pn]=A (.b L):=rfl
theorem So:Gq L [.pn,.pn]=A (.b Aa):=rfl
theorem eW(a:T)(b:D):Gq Aa [.p a b,.pn]=A (.b Aa):=rfl
theorem nP:Gq Aa [.pn,.pn]=A (.b L):=rfl
def p_{c:C AE}(x2:EW c)(yY:BH c<=6000){xN:C Bz}{k:T}{p q:F}{I y:D->F}{r:G}(s:Ff c xN k p q I y r)(h d:N)(g:K)(x3:Kd c h):∃xq xm xr xa,W9 (pos 229) [.p k 0,.S (N.c h),.S (N.c d),.n g] r=A (.AB [.S (N.c (Eb c h d g).2.1),.n (Eb c h d g).2.2],xa)/\Ff (Eb c h d g).1 xN k xq q xm xr xa/\IU r k p q I y c.l xa xq q xm xr (Eb c h d g).1.l:=by
 let⟨yK,xy,yw,yt,xO,yn,xJ,y4⟩:=box r (.I 2 (N.c h))
 let⟨yL,xz,yx,yu,xk,yo,x9,y5⟩:=box xy (.I 2 (N.c d))
 let⟨xd,x0,yy,yv,xe,xX,xL,yJ⟩:=box xz (.I 2 [.i .u8 0,.n 0])
 have U:=Ko r h yw yt
 have V:=Ko xy d yx yu
 have W:=Jp xz yy yv
 have xs:=xO.AI (xk.AI xe)
 have ya:=λxc=>yJ (xk.lv (xO.lv xc))
 have xQ:=s.ext xs
 have xv:=((xk.AI xe).M xJ).t yn
 have xw:=(xe.M x9).t yo
 have x8:=(xk.AI xe).lv xJ
 have xK:=xe.lv x9
 let⟨yD,yE⟩:=f6 x2 xQ h d x3
 have J:∀{t:G}(j:AH x0 t)(xi:N)(l:K),(∀n,AX 2 t [.p xd 0,.S (N.c xi)]=A (AC,n)->n.AL xd 0 2=A (N.c xi)->xx W9 229 [.p k 0,.S (N.c h),.S (N.c d),.n g] r=A (.AB [.S (N.c xi),.n l],n))->Eb c h d g=(c,xi,l)->∃xq xm xr xa,W9 (pos 229) [.p k 0,.S (N.c h),.S (N.c d),.n g] r=A (.AB [.S (N.c (Eb c h d g).2.1),.n (Eb c h d g).2.2],xa)/\Ff (Eb c h d g).1 xN k xq q xm xr xa/\IU r k p q I y c.l xa xq q xm xr (Eb c h d g).1.l:=λj xi l xc yl=>by
  let⟨n,x,u,yi⟩:=Gy ((j.M xL).t xX) xi
  have xP:AH r n:=by rw[yi];exact(xs.AI j).Gw ya _
  rw[yl];exact⟨p,I,y,n,AZ B B (xc n x u),s.ext xP,IU.ext xP⟩
 cases xl:G0 c h d with
 |false=>
  let⟨t,xW,j⟩:=yD xl
  have yU:=Ay ((j.M x8).t xv) 0;have yV:=Ay ((j.M xK).t xw) 0;have y8:=BB ((j.M x8).t xv);have y9:=BB ((j.M xK).t xw);have ye:=xs.AI j;have z:=Xd h;have Y:=Xd d;have xT:=N_ 3;have xU:=N_ 5;by_cases E:h.Ak=5;.refine J j h 0 (λn x u=> ?_) (by unfold Eb;rw[Af E]);rw[A0 E]at z;rw[KC.1];simp only[QY,U,V,W,So,QB,z.H B, *]
  rw[A2 E]at z;by_cases Z:d.Ak=5;.refine J j d 0 (λn x u=> ?_) (by unfold Eb;rw[Ad E,Af Z]);rw[A0 Z]at Y;rw[KC.1];simp only[QY,U,V,W,So,QB,z.H B,Y.H B, *]
  rw[A2 Z]at Y;by_cases xg:h.Ak=3;.refine J j (Ed 3) 0 (λn x u=> ?_) (by unfold Eb;rw[Ad E,Ad Z,Af xg]);rw[KC.1];simp only[QY,U,V,W,So,QB,z.H B,Y.H B,xg,KC.2.2,xT.H B, *]
  by_cases xu:h.Ak=4
  .by_cases xD:d.Ak=1;.refine J j (Ed 3) 0 (λn x u=> ?_) (by unfold Eb;rw[Ad E,Ad Z,Ad xg,Ad (by grind),Af xl]);rw[KC.1];simp only[QY,U,V,W,Int.reduceEq,So,QB,z.H B,Y.H B,xu,xD,KC.2.2,xT.H B, *]
   .refine J j (Ed 5) 0 (λn x u=> ?_) (by unfold Eb;rw[Ad E,Ad Z,Ad xg,Af (Or.inr xD)]);rw[KC.1];simp only[QY,U,V,W,Int.reduceEq,So,QB,z.H B,Y.H B,xu,xD,KC.2.2,KC.2.1,xU.H B, *]
  .refine J j (Ed 5) 0 (λn x u=> ?_) (by unfold Eb;rw[Ad E,Ad Z,Ad xg,Af (Or.inl xu)]);rw[KC.1];simp only[QY,U,V,W,Int.reduceEq,So,QB,z.H B,Y.H B,xg,xu,KC.2.2,KC.2.1,xU.H B, *]
 |true=>
  let⟨m,xc,i,xj,yg,t,yr,xp,yX,x4,ys,yA,yB,xW,j⟩:=yE xl
  let⟨_,_,_,_,_,_,_,_,_,y2,y1,_⟩:=Sw x3 xl
  have yW:m<c.l:=by grind
  have yZ:=x2.at xp;have X:=xQ.ext j;have ye:=xs.AI j;have R:Eb c h d g=if xj.Ak≠0 then(c,xj,0)else if 6000<=BH c then(c,AO,5)else(Ke c h.n (λi=>⟨i.I,i.AV++[⟨d.n,g⟩]⟩),AO,0):=by unfold Eb;rw[Ad (by grind),Ad (by grind),Ad (by grind),Ad (by grind),xl,Ad (by grind),ys]
  let⟨xS,xR⟩:=CD (f:=N.c) (w:=2) (λ_=>B) (X.M.c m i xp) x4
  have:xS=yg:=by have:=xR.ia;rw[yB]at this;cases this;rfl
  subst this;have yP:t.AL xS (xc*2) 2=A (N.c xj):=xR.AL (f:=N.c) (λ_=>B) x4;have xn:=UB xj;by_cases xE:xj.Ak=0
  .rw[A0 xE]at xn;rw[Ad Om]at R;have yT:t.Ap k 1=A (.n (BH c)):=Ay X.gx 1;have yS:t.Ap k 0=A p:=Ay X.gx 0;have xG:=Ch .n (BH c) 6000;by_cases xV:6000<=BH c;.rw[A0 Om]at xG;rw[Af xV]at R;refine J j AO 5 (λn x u=> ?_) R;rw[KC.1];simp only[QY,Zy _ _,QB,xn.H B,QE, *]
   .rw[A2 Om]at xG;rw[Ad xV]at R;have yz:(Ke c h.n λi=>⟨i.I,i.AV++[⟨d.n,g⟩]⟩)=c.set m ⟨i.I,i.AV++[⟨d.n,g⟩]⟩:=by unfold Ke;rw[yA];simp only[];rw[yr];rfl
    rw[yz]at R;rw[R];let⟨yc,xt,n,xb,yF,y0,yO,yQ,yf,x5⟩:=X.M.dk xp (by omega) ⟨d.n,g⟩
    have x7:=x5 k X.lx X.nx;have xY:=x7.2.2.1.t X.gx;have xF:=F2 (a:=(BH c)) (b:=1) (by omega) (by omega);have yq:BH (c.set m ⟨i.I,i.AV++[⟨d.n,g⟩]⟩)=BH c+1:=by have:=VF xp ⟨i.I,i.AV++[⟨d.n,g⟩]⟩;rw[AdY]at this;simp only[AeE]at this;omega
    rw[show(BH c)+1=(BH (c.set m ⟨i.I,i.AV++[⟨d.n,g⟩]⟩):K) by omega]at xF;have xB:=Gx (d:=1) (a:=.n (BH (c.set m ⟨i.I,i.AV++[⟨d.n,g⟩]⟩))) xY (by omega) (by omega) B B;rw[(Ta _ _ _ _).2.1]at xB;generalize BH (c.set m ⟨i.I,i.AV++[⟨d.n,g⟩]⟩)=xf at yq xF xB;have yh:t.Ap yL 1=A (.n d.n):=Ay ((j.M xK).t xw) 1;have yC:AR 2 [p,.n h.n]=A (.p xt (m*2)):=by grind
    have ym:Bl 1 [.p xt (m*2)]=A (.p xt (m*2+1)):=B;have yH:AM t [.p xt (m*2+1)]=A (y m):=yO;have yk:Cb [(.n 0),(.n 0)] [(0,1),(1,1)] [.n d.n,.n g]=A (.S (BJ.c ⟨d.n,g⟩)):=B;have yG:=j.lv xL;have yM:¬B8 p I y c.l xd:=λxc=>ya (s.M.lv xc);have x6:=x5 xd yG yM;have yd:k≠xd:=by grind
    have xM:∀e,e≠k->(xb.set k (.I 3 [p,.n xf,q])).M e=xb.M e:=λe S=>by rw[AN,Ad S]
    have xZ:(xb.set k (.I 3 [p,.n xf,q])).M k=A (.I 3 [p,.n xf,q]):=by rw[AN,Af B]
    have yI:∀e,Lv (xb.set k (.I 3 [p,.n xf,q])) e=Lv xb e:=by grind
    generalize xb.set k (.I 3 [p,.n xf,q])=x1 at xB xM xZ yI;have yp:=(xM xd (λl=>yd l.s)).t (x6.2.2.1.t ((j.M xL).t xX));let⟨xo,yR,yN,yj⟩:=Gy yp AO
    have yb:∀e,e≠xd->xo.M e=x1.M e:=λe S=>by rw[yj,AN,Ad S]
    have y3:∀e,Lv xo e=Lv x1 e:=by grind
    have xH:(c.set m ⟨i.I,i.AV++[⟨d.n,g⟩]⟩).l=c.l:=by grind
    have xC:∀e,Lv r e->¬B8 p I y c.l e->e≠k->xo.M e=r.M e/\Lv xo e/\¬B8 p I (BW y m yc) c.l e:=by grind
    have y6:=x6.2.2.2.2;have y7:=x7.2.2.2.2;refine⟨p,I,BW y m yc,xo,AZ B B ?_,?_,⟨λe S xI=> ?_⟩⟩;.rw[KC.1];simp only[↓U,↓V,↓W,↓Q,↓QT,AdM,↓H (BB xv),↓H (BB xw),↓H xW,↓H (Zy _ _),QB,↓H yP,↓xn.H B,↓H yT,↓H xG,↓H yS,↓H (Ay ((j.M ((xk.AI xe).lv xJ)).t xv) 1:t.Ap yK 1=A (.n h.n)),↓H yC,↓H ym,↓H yH,↓H yh,↓H yk,↓yF,↓H yQ,↓H (Ay xY 1:xb.Ap k 1=A (.n (BH c))),↓H xF,↓H xB,↓Xa.H B,↓H yR,↓H yN]
    .exact{
     M:=yf.Ar λe S xA=>by rw[xH]at xA;exact⟨(yb e (λl=>by grind)).t (xM e (λl=>by grind)),by grind⟩
     ot:=s.ot.Ar λe S xh=>by have:=xC e S (s.tm e xh) (λl=>xh (l▸s.tx));grind
     gx:=by rw[yb k yd,xZ,show xf=(BH (c.set m ⟨i.I,i.AV++[⟨d.n,g⟩]⟩)) by have:=VF xp ⟨i.I,i.AV++[⟨d.n,g⟩]⟩;rw[AdY]at this;simp only[AeE]at this;omega]
     lx:=by grind
     nx:=by grind
     tx:=s.tx
     tm:=λe xh=>by rw[xH];exact(xC e (s.ot.Cz xh) (s.tm e xh) (λl=>xh (l▸s.tx))).2.2}
    .have xy:=λl=>xI (.i l);have xz:=λl=>xI (.j (.i l));have x0:=AdS λl=>xI (.j (.j l));have:=xC e S xz xy;refine⟨P,P,λxA=> ?_⟩;rw[xH]at xA;rcases xA with l|l|l<;>grind
  .rw[A2 xE]at xn;rw[Af xE]at R;refine J j xj 0 (λn x u=> ?_) R;rw[KC.1];simp only[QY,U,V,W,Zy _ _,QB,xn.H B, *]
def Zb(a b:F):Ae F:=
 (A6 .and [a,(.i .u64 4294967295)]).b λc=>
 (A6 .shr [a,(.i .u64 32)]).b λd=>
 (A6 .and [b,(.i .u64 4294967295)]).b λe=>
 (A6 .shr [b,(.i .u64 32)]).b λf=>
 (A6 .mul [c,e]).b λo=>
 (A6 .mul [d,e]).b λp=>
 (A6 .shr [o,(.i .u64 32)]).b λq=>
 (A6 .add [p,q]).b λg=>
 (A6 .and [g,(.i .u64 4294967295)]).b λr=>
 (A6 .shr [g,(.i .u64 32)]).b λs=>
 (A6 .mul [c,f]).b λh=>
 (A6 .add [r,h]).b λi=>
 (A6 .mul [d,f]).b λj=>
 (A6 .add [j,s]).b λk=>
 (A6 .shr [i,(.i .u64 32)]).b λl=>
 (A6 .add [k,l]).b λm=>
 (A6 .mul [a,b]).b λn=>
 A (.AB [m,n])
def vC(d:Bd)(a b:F)(c:G):xx d 264 [a,b] c=(Zb a b).b λe=>A (e,c):=by rw[sW];unfold Zb;simp only[Option.bind_assoc,AdP]
def aF(c:K):Ae F->Ah
 |some (.AB [.i .u64 a,.i .u64 b])=>a==0&&b==c
 |_=>Aa
def rR{a:K}{b:Ae _}(c:aF a b=L):b=A (.AB [.i .u64 0,.i .u64 a]):=by unfold aF at c;grind
def ld:((List.range 101).all λa=>aF a (Zb (.i .u64 1) (.i .u64 a)))=L:=by kernel_rfl
def qy(b:a<=100):AY 264 [.i .u64 1,.i .u64 a] (.AB [.i .u64 0,.i .u64 a]):=Bu B B B ⟨G.Aq,by rw[vC,rR (Aei.1 ld a P)];rfl⟩
def qx(b:a<=100):AY 262 [.i .u64 1,.i .u64 a] (.AB [.i .u64 0,.i .u64 a]):=Bu B B B (by refine⟨G.Aq,?_⟩;rw[hn.1];simp only[QY,QB,hn.2,(qy b).H B])
def hz(a:D):C F:=(BG a AO).f N.c
def gL(a:D):(hz a).l=a*2:=by unfold hz;rw[Mf (f:=N.c) (w:=2) (λ_=>B),Afr]
def aA(a b:D):hz (a+b)=hz a++hz b:=by unfold hz;rw[<-List.replicate_append_replicate,AfY]
def gK(a:D):BU (hz a)=L:=by
 rw[DJ]
 unfold hz
 induction a with
 |zero=>rfl
 |succ a b=>rw[Ae4,Aeh,AeG,b];rfl
def kF{g:T}{b:D}(i:d.M g=A (.I (b*2) (hz b))){c:D}(l:c+a<=b):∃h,d.Ep g (c*2) (a*2) (hz a)=A h/\(∀e,h.M e=d.M e)/\∀e,Lv h e=Lv d e:=by
 have j:d.Ep g (c*2) (a*2) (hz a)=A (d.set g (.I (b*2) (hz b))):=by
  rw[Ki (by rw[i];rfl),Af (by omega)];congr 3;split;.grind
  .obtain⟨f,k⟩:∃f,b=c+(a+f):=⟨b-c-a,by omega⟩;rw[k,aA c (a+f),aA a f];have:=Xz (hz a) (hz c) (hz a++hz f);rw[gL]at this;rw[this,hv _ _ _ B]
 exact⟨_,j,jP i,P⟩
def wh{c:T}{b:D}(f:d.M c=A (.I (b*2) (hz b)))(h:a<=b):d.AL c (0+0*2) (a*2)=A (hz a):=by
 rw[D1 f,Af (by omega)];congr 1;split;.grind
 .obtain⟨e,g⟩:∃e,b=a+e:=⟨b-a,by omega⟩;rw[g,aA];rw[Ad7,<-gL a,List.take_left]
def jY(c:T){b:D}(d:D)(e:a<=b):GF 2 L Aa [.Z c 0 b d 2,.n a]=A (.Z c (0+a*2) (b-a) (Mb d a) 2):=by show Aj (AW 2 2) (match(Aj (BX a b) (A (a,b)) O)with|some (f,e)=>A (F.Z c (0+f*2) (e-f) (Mb d f) 2)|none=>O) O=_;rw[AdX e];rfl
def Aae(c:T){b:D}(d:b<=a):GF 2 Aa L [.Z c 0 a (a+1) 2,.n b]=A (.Z c (0+0*2) (b-0) (Mb (a+1) 0) 2):=by show Aj (AW 2 2) (match(Aj (BX b a) (A (0,b)) O)with|some (e,d)=>A (F.Z c (0+e*2) (d-e) (Mb (a+1) e) 2)|none=>O) O=_;rw[AdX d];rfl
def ni{d:T}{b:D}(i:c.M d=A (.I (b*2) (hz b))){g h:D}(r:a<b)(s:0<a):∃e,GD 2 c [.Z d (0+a*2) (b-a) g 2,.Z d (0+0*2) (a-0) h 2]=A (.n (min a (b-a):D),e)/\(∀f,e.M f=c.M f)/\∀f,Lv e f=Lv c f:=by
 let⟨e,m,p,q⟩:=kF i (c:=a) (a:=min a (b-a)) (by omega)
 refine⟨e,?_,p,q⟩;have j:min a (b-a)≠0:=by omega
 have n:F7 c 2 (min a (b-a)) (.Z d (0+0*2) (a-0) h 2)=A (hz (min a (b-a))):=by show Aj _ _ O=_;rw[AdX (by omega),Gm j];exact wh i (by omega)
 show(match F7 c 2 (min a (b-a)) (.Z d (0+0*2) (a-0) h 2)with|some l=>Aj (BU l) (Qi c 2 (min a (b-a)) l (.Z d (0+a*2) (b-a) g 2)) O|none=>O)=_;rw[n];show Aj (BU (hz (min a (b-a)))) (Qi c 2 (min a (b-a)) (hz (min a (b-a))) (.Z d (0+a*2) (b-a) g 2)) O=_;rw[gK];show Aj (AW 2 2) (Aj (AW (min a (b-a)) 0) (A (F.n 0,c)) (match c.Ep d (0+a*2) (min a (b-a)*2) (hz (min a (b-a)))with|some e=>A (F.n (Int.ofNat (min a (b-a))),e)|none=>O)) O=_;rw[Gm j,Ad2,m];rfl
def hL{f:T}{d:D}(t:d<=100):∀h c g,d-c<=h->0<c->c<=d->g.M f=A (.I (d*2) (hz d))->∃i,jj W9 258 2 [.n c,.Z f 0 d (d+1) 2] g=A (.Z f 0 d (d+1) 2,i)/\(∀e,i.M e=g.M e)/\∀e,Lv i e=Lv g e
 |h,c,g,y,q,n,m=>by
  by_cases o:c=d;.subst o;have k:=CA c;refine⟨g,?_,P,λ_=>B⟩;rw[Oq.2.2.2.2.1];simp only[QY,Oq.2.2.2.1, *]
  .have k:(c:K)<(d:K):=by omega
   let⟨r,p,u,v⟩:=ni m (a:=c) (g:=Mb (d+1) c) (h:=Mb (d+1) 0) (by omega) q
   have l:=F2 (a:=(c:K)) (b:=((min c (d-c):D):K)) (by omega) (by omega)
   rw[show(c:K)+((min c (d-c):D):K)=((c+min c (d-c):D):K) by omega]at l
   cases h with
   |zero=>omega
   |succ h=>
    let⟨s,x,z,w⟩:=hL t h (c+min c (d-c)) r (by omega) (by omega) (by omega) ((u f).t m)
    refine⟨s,?_,P,λe=>(w e).t (v e)⟩;rw[Oq.2.2.2.2.1];simp only[QY,(B:DX [.Z f 0 d (d+1) 2]=A (.n (d:K))),k,Oq.2.2.2.2.2,jY f (d+1) n,Aae f n,p,l];grind
def kE{a:K}(b:0<=a)(c:a<=1000000):Iu .u64 a=a:=by rw[KQ];have:IntKind.u64.wrap a=a % 18446744073709551616:=B;omega
def Aa9{a:K}(b:0<=a)(c:a<=1000000):Iu .n a=a:=by rw[KQ];exact NL (by omega) (by omega)
def Uq{d:IntKind}{a:K}(b:0<=a)(c:a<=1000000):Ho .u64 [.i d a]=A (.i .u64 a):=by show A (F.i .u64 (Iu .u64 a))=_;rw[kE b c]
def Zj{d:IntKind}{a:K}(b:0<=a)(c:a<=1000000):Ho .n [.i d a]=A (.n a):=by show A (F.n (Iu .n a))=_;rw[Aa9 b c]
def qv(z:a<=100){m:F}(J:Aw b m N.c 2 [AO]):∃w q,W9 (pos 258) [m,.n (a:K)] b=A (w,q)/\Aw q w N.c 2 (BG a AO)/\AH b q/\Dx b w:=by
 have xi:DX [m]=A (.n 1):=Cp J;have S:¬(a:K)<0:=by omega
 have Z:=qx z;have T:=Uq (d:=.n) (a:=1) (by omega) (by omega);have U:=Uq (d:=.n) (a:=(a:K)) (by omega) (by omega);have V:=Zj (d:=.u64) (a:=(a:K)) (by omega) (by omega);have H:=Ti b.next a (by omega);have u:=Tu b a;have p:AH b (b.V (.I (a*2) ((BG a AO).f N.c))):=AH.V _ _;have i:(b.V (.I (a*2) ((BG a AO).f N.c))).M b.next=A (.I (a*2) (hz a)):=HM _ _;have E:Lv (b.V (.I (a*2) ((BG a AO).f N.c))) b.next:=by grind
 have M:=J.ext p;have y:∀v,Lv b v->As (.Z b.next 0 a (a+1) 2) v:=λv xg=>EN λr=>by subst r;exact EX b xg
 generalize xe:b.next=f at H u i E y;generalize xd:b.V (.I (a*2) ((BG a AO).f N.c))=e at p i E M u;have W:A6 .gtr [.i .u64 0,.i .u64 0]=A (.b Aa):=by rw[Ew];rfl
 have X:A6 .gtr [.i .u64 (a:K),.i .u64 9223372036854775807]=A (.b Aa):=by rw[Ew,A2 (by omega)]
 have Y:∃d,GD 2 e [.Z f 0 a (a+1) 2,m]=A (.n (min 1 a:D),d)/\(∀c,d.M c=e.M c)/\∀c,Lv d c=Lv e c:=by
  let⟨d,r,l,Q⟩:=kF i (c:=0) (a:=min 1 a) (by omega)
  rcases M with⟨_,xl⟩|⟨h,x,xh,_,g,_⟩;.grind
  .subst xh;by_cases t:a=0;.subst t;exact⟨e,B,P,P⟩
   .have j:min 1 a=1:=by omega
    rw[j]at r⊢;refine⟨d,?_,l,Q⟩;have s:F7 e 2 1 (.Z h 0 1 x 2)=A (hz 1):=by show Aj (AW 2 2&&BX 1 1) (Aj (AW 1 0) (A []) (e.AL h 0 (1*2))) O=_;show e.AL h 0 (1*2)=_;rw[D1 g,Af (by grind),Af (by grind)];rfl
    show(match F7 e 2 (min 1 a) (.Z h 0 1 x 2)with|some I=>Aj (BU I) (Qi e 2 (min 1 a) I (.Z f 0 a (a+1) 2)) O|none=>O)=_;rw[j,s];show Aj (BU (hz 1)) (Qi e 2 1 (hz 1) (.Z f 0 a (a+1) 2)) O=_;rw[gK];show(match e.Ep f 0 (1*2) (hz 1)with|some xc=>A (F.n (Int.ofNat 1),xc)|none=>O)=_;grind
 let⟨d,s,l,Q⟩:=Y
 have xa:=(l f).t i;have xb:∃g,jj W9 258 2 [.n (min 1 a:D),.Z f 0 a (a+1) 2] d=A (.Z f 0 a (a+1) 2,g)/\(∀c,g.M c=d.M c)/\∀c,Lv g c=Lv d c:=by
  by_cases t:a=0;.subst t;refine⟨d,?_,P,λ_=>B⟩;have xm:DX [.Z f 0 0 (0+1) 2]=A (.n 0):=B;show jj W9 258 2 [.n 0,.Z f 0 0 (0+1) 2] d=_;rw[Oq.2.2.2.2.1];simp only[QY,Int.lt_irrefl,Oq.2.2.2.1, *]
  .have j:min 1 a=1:=by omega
   rw[j];exact hL z a 1 d (by omega) (by omega) (by omega) xa
 let⟨g,xk,xj,xn⟩:=xb
 have R:AH b g:=λc xf=>⟨(xj c).t ((l c).t (p.M xf)),by grind⟩;refine⟨_,g,AZ B B ?_,u.Ar P,R,y⟩;rw[Oq.1];simp only[QY,S,Oq.2.1,xi,T,U,Z.H B,W,X,QB,Oq.2.2.1,V,xe,H,xd,s];grind
def ha(b:K)(c:N):∀a:C _,(Gg b a).l+(G4 b c a).l=a.l
 |[]=>rfl
 |e::a=>by have d:=ha b c a;unfold Gg G4 at d⊢;grind
structure T0(p:C AE)(f:G)(e:T)(l k:F)(o r:D->F)(h:K)(m:N)(j:C BJ)(q:C Bz)(n:D)(g:D)(i c:F)(b:G):Prop where
 M:CY b l o r p
 ok:Aw b i BJ.c 2 (Gg h (j.t g))
 ot:Aw b c Bz.c 3 (q++G4 h m (j.t g))
 gx:b.M e=A (.I 3 [l,.n ((n:K)-((G4 h m (j.t g)).l:D)),c])
 lx:Lv b e
 d:Cn i c
 fk:∀a,Lv f a->a=e\/As k a->As i a
 tx:As c e
 BO:∀a,Lv f a->a≠e->As k a->b.M a=f.M a/\Lv b a/\As c a
def Aav{Y:C AE}{xh z:D}{n:AE}(x3:Y[xh]? =A n)(yl:n.AV.l<=6000)(t:N){xA:C Bz}(yn:xA.l<=10000){xa:D}(yi:xa<=6000)(yj:n.AV.l<=xa){x5:K}{V J xL g:T}{xC:F}{I:G}{Z:F}{xb W:D->F}(xB:CY I l xb W Y)(yr:¬B8 l xb W Y.l g)(yu:∀c,¬As Z c->¬B8 l xb W Y.l c)(xI:Lv I g)(xW:I.M V=A (.I 2 (N.c ⟨x5,z⟩)))(x6:Lv I V)(ya:V≠g)(xQ:As Z V)(xY:I.M J=A (.I 2 (N.c t)))(x7:Lv I J)(yb:J≠g)(xR:As Z J){q:D}(xG:q<n.AV.l){xe xz:F}{j:G}(e:T0 Y I g l Z xb W z t n.AV xA xa q xe xz j):∃xf k xF,jj W9 228 2 [.n n.AV.l,W xh,.p V 0,.p J 0,.p g 0,.n q,xC,xe,.p xL 0] j=jj W9 228 2 [.n n.AV.l,W xh,.p V 0,.p J 0,.p g 0,.n (q+1:D),xC,xf,.p xL 0] xF/\T0 Y I g l Z xb W z t n.AV xA xa (q+1) xf k xF:=by
 let⟨r,xs⟩:=Bb xG
 let⟨xS,xl⟩:=CD (f:=BJ.c) (w:=2) (λ_=>B) (e.M.w xh n x3) xs
 have xD:=Cm xG;have xO:j.AL xS (q*2) 2=A (BJ.c r):=xl.AL (f:=BJ.c) (λ_=>B) xs;let⟨yt,x1,xH,x2,E,xn,yo,yq⟩:=box j (.I 2 (BJ.c r))
 have xP:∀(p:F->G->R),bl (.p j.next 0) (j.V (.I 2 [.n 0,.n 0])) p=p (.p j.next 0) (j.V (.I 2 [.n 0,.n 0])):=λ_=>B;have xy:AX 2 (j.V (.I 2 [.n 0,.n 0])) [.p j.next 0,.S (BJ.c r)]=A (AC,j.V (.I 2 (BJ.c r))):=ET B B;rw[x2]at xy;have xM:=Ay xn 0;have yc:=Ay xn 1;have yd:=BB xn;have xJ:=e.BO V x6 ya xQ;have xK:=e.BO J x7 yb xR;have xN:=Ay ((E.M xJ.2.1).t (xJ.1.t xW)) 1;have ye:x1.AL J 0 2=A (N.c t):=BB ((E.M xK.2.1).t (xK.1.t xY));have xc:=g_ z (n.AV.t q) r;have S:=km z t (n.AV.t q) r;rw[FL xs]at xc S;have xo:=(E.M e.lx).t e.gx;have xv:=E.lv e.lx;by_cases xj:r.B0=z
 .rw[Af xj]at xc S;rw[Ad5]at xc;have xr:=kk z t (n.AV.t q);rw[Aef]at xr;let⟨k,u,xt,xw,xm,xi⟩:=FJ (f:=Bz.c) (w:=3) (b:=(⟨r.Ct,t⟩:Bz)) (o:=.S (Bz.c ⟨r.Ct,t⟩)) (h:=24) (λ_=>B) B B (e.ot.ext E) (DG (by grind))
  have xE:=(xm.M xv e.tx).t xo;have yp:=xm.lv xv e.tx;have xU:Cb [(.n 0),(.i .u8 0),(.n 0)] [(0,1),(1,2)] [.n r.Ct,.S (N.c t)]=A (.S (Bz.c ⟨r.Ct,t⟩)):=B;have yg:=Ay xo 2;have xk:=Gx (d:=2) (a:=k) xE (by omega) (by omega) (Cr xw).1 (Cr xw).2;rw[(Ta _ _ _ _).2.2]at xk;generalize yk:(xa:K)-((G4 z t (n.AV.t q)).l:D)=s at xk xo xE;have xX:∀c,c≠g->(u.set g (.I 3 [l,.n s,k])).M c=u.M c:=λc h=>by rw[AN,Ad h]
  have xp:(u.set g (.I 3 [l,.n s,k])).M g=A (.I 3 [l,.n s,k]):=by rw[AN,Af B]
  have x8:∀c,Lv (u.set g (.I 3 [l,.n s,k])) c=Lv u c:=by grind
  generalize u.set g (.I 3 [l,.n s,k])=X at xk xX xp x8;have yh:=Ay xp 1;have xV:=FA (a:=s) (b:=1) (by omega) (by omega);have xx:=Gx (d:=1) (a:=.n (s-1)) xp (by omega) (by omega) B B;rw[(Ta _ _ _ _).2.1]at xx;have xZ:∀c,c≠g->(X.set g (.I 3 [l,.n (s-1),k])).M c=X.M c:=λc h=>by rw[AN,Ad h]
  have x0:(X.set g (.I 3 [l,.n (s-1),k])).M g=A (.I 3 [l,.n (s-1),k]):=by rw[AN,Af B]
  have x9:∀c,Lv (X.set g (.I 3 [l,.n (s-1),k])) c=Lv X c:=by grind
  generalize X.set g (.I 3 [l,.n (s-1),k])=xq at xx xZ x0 x9;have p:∀c,Lv j c->c≠g->As xz c->xq.M c=j.M c/\Lv xq c/\As k c:=by grind
  have xu:∀c,¬As xe c->c≠g:=λc m xT=>by subst xT;exact m (e.fk _ xI (.i B))
  have yf:=xi g xv e.tx;refine⟨xe,k,xq,?_,?_⟩;.rw[LJ.2.2.2.1];simp only[↓Q,↓QT,xD,LJ.2.2.2.2.1,↓H xl.ia,↓H xO,↓xP,↓H xy,xH,↓H xM,↓H xN,xj,LJ.2.2.2.2.2.2,↓H yg,↓H yc,↓H ye,↓H xU,↓xt,↓H xk,↓H yh,↓H xV,↓H xx,LJ.2.2.2.2.2.1,↓H (Bh (a:=q) (by omega))]
  .exact{
   M:=xB.Ar λc h x4=>by
    have xd:As Z c:=by grind
    have xg:=e.BO c h P xd;grind
   ok:=by rw[xc];exact e.ok.Ar λc h m=>⟨(p c h P (e.d.r m)).1,(p c h P (e.d.r m)).2.1⟩
   ot:=by rw[S,<-AeN];exact xw.Ar λc h m=>by have U:c≠g:=P;grind
   gx:=by grind
   lx:=by grind
   d:=Cn.of λc m=>xi c (E.lv (e.ok.Cz m)) (e.d.r m)
   fk:=e.fk
   tx:=yf
   BO:=λc h U xd=>by have xg:=e.BO c h U xd;have:=p c xg.2.1 U xg.2.2;grind}
 .rw[Ad xj]at xc S;rw[Ad5]at S;have xr:=g3 z (n.AV.t q);rw[Aef]at xr;let⟨xf,u,xt,ys,xm,xi⟩:=FJ (f:=BJ.c) (w:=2) (b:=r) (o:=.S (BJ.c r)) (h:=16) (λ_=>B) B B (e.ok.ext E) (DG (by omega))
  have p:∀c,Lv j c->As xe c->u.M c=j.M c/\Lv u c/\As xf c:=by grind
  have xu:=p g e.lx (e.fk _ xI (.i B));refine⟨xf,xz,u,?_,?_⟩;.rw[LJ.2.2.2.1];simp only[↓Q,↓QT,AdM,xD,LJ.2.2.2.2.1,↓H xl.ia,↓H xO,↓xP,↓H xy,xH,↓H xM,↓H xN,xj,↓H yd,↓xt,LJ.2.2.2.2.2.1,↓H (Bh (a:=q) (by omega))]
  .exact{
   M:=xB.Ar λc h x4=>by have xg:=e.BO c h P P;have:=p c P (e.fk c h P);grind
   ok:=by grind
   ot:=by rw[S];exact e.ot.Ar λc h m=>⟨(p c h (e.d.l m)).1,(p c h (e.d.l m)).2.1⟩
   gx:=by rw[S];exact xu.1.t e.gx
   lx:=xu.2.1
   d:=(Cn.of λc m=>xi c (E.lv (e.ot.Cz m)) (e.d.l m)).symm
   fk:=λc h ym=>by
    by_cases U:c=g;.grind
    .exact(p c (e.BO c h U P).2.1 (e.fk c h Om)).2.2
   tx:=e.tx
   BO:=λc h U xd=>by have xg:=e.BO c h U xd;have:=p c P (e.fk c h P);grind}
