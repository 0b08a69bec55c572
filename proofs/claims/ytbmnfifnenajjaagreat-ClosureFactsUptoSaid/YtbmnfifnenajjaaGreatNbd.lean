/- Part of the proof. -/
import Derived.Test.YtbmnfifnenajjaaGreatNbc
set_option linter.all false
noncomputable section
open Option renaming some->A,none->O,getD->Option.g,bind->Option.b
open _root_ renaming rfl->B,List->C,Nat->D,Int->K,if_neg->Ad,if_pos->Af,Option->Ae,Bool->Ah,cond->Aj,decide_eq_true->A0,decide_eq_false->A2,absurd->BF
open Bool renaming true->L,false->Aa
open Decidable renaming decide->Ao
open Nat renaming beq->AW,ble->BX,le_refl->CK
open List renaming length->List.l,map->List.m,take->List.t,drop->List.d,flatMap->List.f
open Go.IntKind renaming i64->Go.IntKind.n
open Array renaming toList->Array.l
open Eq renaming trans->Eq.t,symm->Eq.s
open Or renaming inl->Or.i,inr->Or.j
open Int renaming toNat->Int.n
namespace Go.Proofs.YtbmnfifnenajjaaGreat
open Go.Fg
variable{a:G}{i:T}
def wN(f:C AE)(I:EW f){e:D}{w:AE}(F:f[e]? =A w)(xo xf k l:K){u g o h:T}(X:a.M u=A (.I 1 (Bp f)))(z:a.M g=A (.I 2 (N.c ⟨xo,e⟩)))(Y:a.M o=A (.I 2 (N.c ⟨xf,k⟩)))(Z:a.M h=A (.I 1 [.sn]))(xa:a.M i=A (.I 2 [.i .u8 0,.n 0]))(xB:Lv a u)(J:Lv a g)(xj:Lv a o)(xk:Lv a h)(xl:Lv a i)(xm:h≠i):∃c m p E,jj W9 115 1 [.p u 0,.p g 0,.p o 0,.n l,.p h 0,.p i 0] a=A (.AB [.S [c],.S (N.c AO),.n 0],E)/\CY E c m p (f.set e ⟨w.I,w.AV++[⟨k,l⟩]⟩):=by
 have xv:=(I.at F).2;let⟨c,m,p,d,xq,s,xp,xs⟩:=Z_ f I a
 have x:BU [c]=L:=by rw[DJ];simp[(Cr s.o).2]
 have S:AX 1 (d.V (.I 1 [.sn])) [.p d.next 0,.S [c]]=A (AC,d.V (.I 1 [c])):=ET B x;generalize xc:d.V (.I 1 [c])=j at S;have V:AH d j:=by rw[<-xc];exact AH.V _ _
 have n:j.M d.next=A (.I 1 [c]):=by grind
 have M:Lv j d.next:=by grind
 generalize xe:d.next=v at S n M;have xn:¬Lv d v:=by rw[<-xe];exact EX _
 let⟨U,y,q,r,xx,xw,xC,xD,W,xi⟩:=(s.ext V).dk F (by omega) ⟨k,l⟩
 let⟨xg,xy,xh,xz,xA⟩:=xi v M (λxb=>xn (s.lv xb))
 have R:∀b,Lv a b->Lv j b/\j.M b=a.M b:=by grind
 have t:∀b,Lv a b->q.M b=a.M b/\r.M b=a.M b/\Lv r b/\¬B8 c m (BW p e U) f.l b:=by grind
 have xr:Cb [(.n 0),(.n 0)] [(0,1),(1,1)] [.n k,.n l]=A (.S (BJ.c ⟨k,l⟩)):=B;let⟨xE,xF,xG,xH⟩:=Sm ((t h xk).2.1.t Z) ((t i xl).2.1.t xa) xm B x AO
 have xt:Bl 1 [.p y (e*2)]=A (.p y (e*2+1)):=by rw[EG]
 refine⟨c,m,BW p e U,(r.set h (.I 1 [c])).set i (.I 2 (N.c AO)),?_,W.Ar λb xu xd=>⟨?_,by grind⟩⟩;.rw[KB.2.2.2];simp only[Q,H (BB X),H (Ay n 0),H (Ay ((R g J).2.t z) 1),H (Ay ((R o xj).2.t Y) 1),(Ij ((t g J).1.t z) B:Bv .Cq [.p g 1] q (.n e)=L),(Ij (xg.t n) B:Bv .Cq [.p v 0] q c=L),H (BB (xh.t n)),QE,ZR, *];rfl
 .rw[Aed]at xd;rw[AN,Ad P,AN,Ad P]
def O8(b:C AE)(c a:N):N:=match Iq b c.n with|some d=>(d.I[a.n.n]?).g AO|none=>AO
def Ke(a:C AE)(b:K)(c:AE->AE):C AE:=match Iq a b with|some d=>a.set b.n (c d)|none=>a
def Eb(a:C AE)(b c:N)(e:K):C AE×N×K:=
 if b.Ak=5 then(a,b,0)
 else if c.Ak=5 then(a,c,0)
 else if b.Ak=3 then(a,Ed 3,0)
 else if b.Ak≠4\/c.Ak≠1 then(a,Ed 5,0)
 else if G0 a b c=Aa then(a,Ed 3,0)
 else if(O8 a b c).Ak≠0 then(a,O8 a b c,0)
 else if 6000<=BH a then(a,AO,5)
 else(Ke a b.n (λd=>⟨d.I,d.AV++[⟨c.n,e⟩]⟩),AO,0)
def Sw{d:C AE}{a c:N}(r:Kd d a)(g:G0 d a c=L):∃(e m:D)(b:AE)(f:N),a.n=e/\d[e]? =A b/\c.n=m/\b.I[m]? =A f/\O8 d a c=f/\a.Ak=4/\c.Ak=1/\Iq d a.n=A b:=by
 unfold G0 at g;simp only[AdO,AdV]at g;let⟨j,n,h⟩:=g
 let⟨b,k⟩:=r j
 let⟨e,o,q⟩:=Mt k
 have p:Sb d a.n=b.I.l:=by unfold Sb;grind
 rw[p]at h;unfold BK at h;simp only[AdO,AdV]at h;let⟨f,s⟩:=Bb (b:=b.I) (a:=c.n.n) (by omega)
 refine⟨e,c.n.n,b,f,o,q,by omega,s,?_,j,n,k⟩;unfold O8;grind
def q7(a:C AE)(X:EW a)(c e:N)(h:K)(xJ:Kd a c):AY 115 [.S (Bp a),.S (N.c c),.S (N.c e),.n h] (.AB [.S (Bp (Eb a c e h).1),.S (N.c (Eb a c e h).2.1),.n (Eb a c e h).2.2]):=by
 have xV:=X.1;have j:G.Aq.next=.h:=B;have k:(G.Aq.V (.I 1 (Bp a))).next=.o .h:=B
 have m:((G.Aq.V (.I 1 (Bp a))).V (.I 2 (N.c c))).next=.i .h:=B
 have n:(((G.Aq.V (.I 1 (Bp a))).V (.I 2 (N.c c))).V (.I 2 (N.c e))).next=.o (.o .h):=B
 have o:((((G.Aq.V (.I 1 (Bp a))).V (.I 2 (N.c c))).V (.I 2 (N.c e))).V (.I 1 [.sn])).next=.i (.o .h):=B
 generalize i:((((G.Aq.V (.I 1 (Bp a))).V (.I 2 (N.c c))).V (.I 2 (N.c e))).V (.I 1 [.sn])).V (.I 2 [.i .u8 0,.n 0])=b;have I:b.M .h=A (.I 1 (Bp a)):=by grind
 have x:b.M (.o .h)=A (.I 2 (N.c c)):=by grind
 have V:b.M (.i .h)=A (.I 2 (N.c e)):=by grind
 have xi:b.M (.o (.o .h))=A (.I 1 [.sn]):=by grind
 have xj:b.M (.i (.o .h))=A (.I 2 [.i .u8 0,.n 0]):=by grind
 have xo:Lv b .h:=by grind
 have xS:Lv b (.o .h):=by grind
 have xT:Lv b (.i .h):=by grind
 have xp:Lv b (.o (.o .h)):=by grind
 have xq:Lv b (.i (.o .h)):=by grind
 have Y:(T.o (.o .h))≠.i (.o .h):=by grind
 have w:=λh=>Sm xi xj Y (a:=Bp a) B B h;have t:∀(M:N)(z:K),(∃W,xx W9 115 [.S (Bp a),.S (N.c c),.S (N.c e),.n h] G.Aq=A (.AB [.S (Bp a),.S (N.c M),.n z],W))->AY 115 [.S (Bp a),.S (N.c c),.S (N.c e),.n h] (.AB [.S (Bp a),.S (N.c M),.n z]):=λM z J=>by
  let⟨W,J⟩:=J
  exact EV B B J B
 have xb:b.Ap (.o .h) 1=A (.n c.n):=Ay x 1;have xd:b.Ap (.i .h) 0=A (.i .u8 e.Ak):=Ay V 0;have xe:b.Ap (.i .h) 1=A (.n e.n):=Ay V 1;have xc:b.Ap .h 0=A (Z AE.c a):=Ay I 0;have xs:b.AL .h 0 1=A (Bp a):=BB I;have xt:b.AL (.o .h) 0 2=A (N.c c):=BB x;have xr:b.AL (.i .h) 0 2=A (N.c e):=BB V;have xX:Bv (.ld 1) [.p .h 0] b (.S (Bp a))=L:=Mo I;have xY:Bv (.ld 2) [.p (.o .h) 0] (b.set (.o (.o .h)) (.I 1 (Bp a))) (.S (N.c c))=L:=Mo (by rw[AN,Ad (by grind)];grind);have xW:Bv (.ld 2) [.p (.i .h) 0] (b.set (.o (.o .h)) (.I 1 (Bp a))) (.S (N.c e))=L:=Mo (by rw[AN,Ad (by grind)];grind);have xA:=Nd 3;have xB:=Nd 5;have y:=fK a X c e xJ;unfold Eb;by_cases xC:c.Ak=5
 .rw[Af xC];refine t c 0 ?_;let⟨p,q,r,s⟩:=w c
  rw[KB.1];simp only[↓GS,↓Q,↓QD,j,k,m,n,o];rw[i];simp only[QY, *];grind
 rw[Ad xC];by_cases xD:e.Ak=5
 .rw[Af xD];refine t e 0 ?_;let⟨p,q,r,s⟩:=w e
  rw[KB.1];simp only[↓GS,↓Q,↓QD,j,k,m,n,o];rw[i];simp only[QY, *];grind
 rw[Ad xD];by_cases xE:c.Ak=3
 .rw[Af xE];refine t (Ed 3) 0 ?_;let⟨p,q,r,s⟩:=w (Ed 3)
  rw[KB.1];simp only[↓GS,↓Q,↓QD,j,k,m,n,o];rw[i];simp only[QY,Int.reduceEq,xA.H B, *];grind
 rw[Ad xE];by_cases xf:c.Ak=4
 .by_cases xg:e.Ak=1
  .rw[Ad (by grind)]
   cases xh:G0 a c e with
   |false=>
    rw[xh]at y;rw[Af B];refine t (Ed 3) 0 ?_;let⟨p,q,r,s⟩:=w (Ed 3)
    rw[KB.1];simp only[↓GS,↓Q,↓QD,j,k,m,n,o];rw[i];simp only[QY,Int.reduceEq,y.H B,QB,xA.H B, *];grind
   |true=>
    rw[xh]at y;rw[Ad (by grind)];let⟨xz,xn,v,g,xk,xI,xN,xR,xM,_,_,xQ⟩:=Sw xJ xh
    have xP:(Ke a c.n λv=>⟨v.I,v.AV++[⟨e.n,h⟩]⟩)=a.set xz ⟨v.I,v.AV++[⟨e.n,h⟩]⟩:=by unfold Ke;rw[xQ];simp only[];rw[xk];rfl
    rw[xM,xP];have xm:AR 2 [Z N.c v.I,.n e.n]=A (.pi (N.c g)):=by rw[xN];exact HZ xR
    have xl:AR 2 [Z AE.c a,.n c.n]=A (.pi (AE.c v)):=by rw[xk];exact M2 xI
    have f:AH b (b.V (.I 2 (N.c g))):=AH.V _ _;generalize xL:b.V (.I 2 (N.c g))=u at f;have xH:u.M b.next=A (.I 2 (N.c g)):=by grind
    have xZ:Lv u b.next:=by grind
    have xw:∀(xn:F->G->R),bl (.p b.next 0) (b.V (.I 2 [.i .u8 0,.n 0])) xn=xn (.p b.next 0) (b.V (.I 2 [.i .u8 0,.n 0])):=λ_=>B;have xu:AX 2 (b.V (.I 2 [.i .u8 0,.n 0])) [.p b.next 0,.S (N.c g)]=A (AC,u):=by rw[<-xL];exact ET B B
    have xv:u.Ap b.next 0=A (.i .u8 g.Ak):=Ay xH 0;have xa:u.AL .h 0 1=A (Bp a):=BB ((f.M xo).t I);have E:=DW .u8 g.Ak 0;by_cases S:g.Ak=0
    .rw[A0 S]at E;rw[Ad (λJ=>J S)];have xG:=pp a X;have U:=JW .n (BH a) 6000;by_cases xF:6000<=BH a
     .rw[A0 (by omega)]at U;rw[Af xF];refine t AO 5 ?_;let⟨p,q,r,s⟩:=Sm ((f.M xp).t xi) ((f.M xq).t xj) Y (a:=Bp a) B B AO
      rw[KB.1];simp only[↓GS,↓Q,↓QD,j,k,m,n,o];rw[i];simp only[QY,Int.reduceEq,x,xd,xf,xg,xs,xt,xr,y.H B,QB,KB.2.1,xc,xb,xl,xe,xm,xw,xu,xv,E,KB.2.2.1,xa,xG.H B,U,QE,p,q,r,s];grind
     .rw[A2 (by omega)]at U;rw[Ad xF];have xy:=(f.M xS).t x;have xO:c=⟨c.Ak,xz⟩:=by rw[<-xk]
      rw[xO]at xy;let⟨M,xU,x0,W,z,xK⟩:=wN a X xI c.Ak e.Ak e.n h ((f.M xo).t I) xy ((f.M xT).t V) P P (f.lv xo) P P (f.lv xp) (f.lv xq) Y
      refine Fz.Oc B B (f:=.AB [.S [M],.S (N.c AO),.n 0]) (d:=W) (c:=5) ?_ (fE xK.fz _ _) (by omega);rw[KB.1];simp only[↓GS,↓Q,↓QD,j,k,m,n,o];rw[i];simp only[QY,Int.reduceEq,x,xd,xf,xg,xs,xt,xr,y.H B,QB,KB.2.1,xc,xb,xl,xe,xm,xw,xu,xv,E,KB.2.2.1,xa,xG.H B,U];grind
    .rw[A2 S]at E;rw[Af S];refine t g 0 ?_;let⟨p,q,r,s⟩:=Sm ((f.M xp).t xi) ((f.M xq).t xj) Y (a:=Bp a) B B g
     rw[KB.1];simp only[↓GS,↓Q,↓QD,j,k,m,n,o];rw[i];simp only[Q,QD,QT,AdM,Int.reduceEq,H x,H xd,xf,xg,H xs,H xt,H xr,y.H B,QB,KB.2.1,H xc,H xb,H xl,H xe,H xm,xw,H xu,H xv,H E,H xa,H (BB xH:u.AL b.next 0 2=A (N.c g)),H p,(Mo (by rw[AN,Ad (λz=>by grind)];grind):Bv (.ld 2) [.p b.next 0] (u.set (.o (.o .h)) (.I 1 (Bp a))) (.S (N.c g))=L),Lq,H q,H r,H s]
     grind
  .rw[Af Om];refine t (Ed 5) 0 ?_;let⟨p,q,r,s⟩:=w (Ed 5)
   rw[KB.1];simp only[↓GS,↓Q,↓QD,j,k,m,n,o];rw[i];simp only[QY,Int.reduceEq,xB.H B, *];grind
 .rw[Af Om];refine t (Ed 5) 0 ?_;let⟨p,q,r,s⟩:=w (Ed 5)
  rw[KB.1];simp only[↓GS,↓Q,↓QD,j,k,m,n,o];rw[i];simp only[QY,Int.reduceEq,xB.H B, *];grind
variable{c:G}
def Cp{g:Type}{b:F}{d:g->C _}{f:D}{a:C _}(e:Aw c b d f a):DX [b]=A (.n a.l):=by rcases e with⟨rfl,rfl⟩|⟨h,i,rfl,_⟩<;>rfl
def Gg(a:K)(b:C BJ):C BJ:=b.filter λc=> !Ao (c.B0=a)
def G4(b:K)(c:N)(d:C BJ):C Bz:=(d.filter λa=>Ao (a.B0=b)).m λa=>⟨a.Ct,c⟩
def g_(a:K)(c:C _)(b:BJ):Gg a (c++[b])=Gg a c++(if b.B0=a then[]else[b]):=by unfold Gg;grind
def km(a:K)(b:N)(d:C _)(c:BJ):G4 a b (d++[c])=G4 a b d++(if c.B0=a then[⟨c.Ct,b⟩]else[]):=by unfold G4;grind
def g3(b:K)(a:C _):(Gg b a).l<=a.l:=List.length_filter_le _ _
def kk(b:K)(c:N)(a:C _):(G4 b c a).l<=a.l:=by unfold G4;grind
structure Yy(b:G)(g:K)(i:N)(h:C BJ)(f:D)(a:F×F)(c:G):Prop where
 ok:Aw c a.1 BJ.c 2 (Gg g (h.t f))
 ot:Aw c a.2 Bz.c 3 (G4 g i (h.t f))
 d:Cn a.1 a.2
 e:AH b c
 fk:Dx b a.1
 ft:Dx b a.2
def Aar{xa:C AE}{k n:D}{h:AE}(U:xa[k]? =A h)(xs:h.AV.l<=6000)(xi:K)(m:N){M P xb xc J:T}{p:G}{xd:F}{xf xn:D->F}(xe:CY p xd xf xn xa)(xt:AR 2 [xd,.n k]=A (.p J (k*2)))(xg:p.M M=A (.I 2 (N.c ⟨xi,n⟩)))(xh:p.M P=A (.I 2 (N.c m)))(xk:Lv p M)(xl:Lv p P){g:D}(Z:g<h.AV.l){I:F×F}{S:G}(a:Yy p n m h.AV g I S):∃W r,jj W9 170 2 [.p M 0,.p P 0,.n g,.p J (k*2),I.1,.p xc 0,I.2,.p xb 0] S=jj W9 170 2 [.p M 0,.p P 0,.n (g+1:D),.p J (k*2),W.1,.p xc 0,W.2,.p xb 0] r/\Yy p n m h.AV (g+1) W r:=by
 let⟨j,E⟩:=Bb Z
 have Q:=xe.ext a.e;let⟨R,xu,_,_,xy,_⟩:=Q.at (AdN.1 U).1
 have:R=J:=by grind
 subst this;let⟨u,t⟩:=CD (w:=2) (λ_=>B) (Q.w k h U) E
 have xq:Bl 1 [.p R (k*2)]=A (.p R (k*2+1)):=B;have xr:Bl 0 [.p u (g*2)]=A (.p u (g*2)):=B;have xv:=Cp (Q.w k h U);have xo:=Cm Z;have xw:AM S [.p u (g*2)]=A (.n j.B0):=t.Ap (f:=BJ.c) (λ_=>B) E (b:=0) (by omega);have xx:=Ay ((a.e.M xk).t xg) 1;have xp:Cb [(.n 0),(.i .u8 0),(.n 0)] [(0,1),(1,2)] [.n j.Ct,.S (N.c m)]=A (.S (Bz.c ⟨j.Ct,m⟩)):=B;have v:=g_ n (h.AV.t g) j;have z:=km n m (h.AV.t g) j;rw[FL E]at v z;by_cases Y:j.B0=n
 .rw[Af Y]at v z;rw[Ad5]at v;have V:=kk n m (h.AV.t g);rw[Aef]at V;let⟨X,r,xj,xm,q,s⟩:=FJ (w:=3) (b:=⟨j.Ct,m⟩) (o:=.S (Bz.c ⟨j.Ct,m⟩)) (h:=24) (λ_=>B) B B a.ot (DG (by omega))
  refine⟨(I.1,X),r,?_,?_⟩;.rw[K4.2.2.2.2.1];simp only[QY,K4.2.2.2.2.2.1,H t.ia,H (B:Bl 1 [.p u (g*2)]=A (.p u (g*2+1))),H (t.Ap (f:=BJ.c) (λ_=>B) E (b:=1) (by omega)),H (BB ((a.e.M xl).t xh)),K4.2.2.2.2.2.2,H (Bh (a:=g) (by omega)), *]
  .exact{
   ok:=by rw[v];exact a.ok.Ar λc b l=>q c b (a.d.r l)
   ot:=by grind
   d:=Cn.of λc l=>s c (a.ok.Cz l) (a.d.r l)
   e:=λc b=>⟨(q.M (a.e.lv b) (a.ft c b)).t (a.e.M b),q.lv (a.e.lv b) (a.ft c b)⟩
   fk:=a.fk
   ft:=λc b=>s c (a.e.lv b) (a.ft c b)}
 .rw[Ad Y]at v z;rw[Ad5]at z;have V:=g3 n (h.AV.t g);rw[Aef]at V;let⟨X,r,xj,xm,q,s⟩:=FJ (w:=2) (b:=j) (o:=.S (BJ.c j)) (h:=16) (λ_=>B) B B a.ok (DG (by omega))
  refine⟨(X,I.2),r,?_,?_⟩;.rw[K4.2.2.2.2.1];simp only[QY,K4.2.2.2.2.2.1,H t.ia,H (t.AL (f:=BJ.c) (λ_=>B) E),K4.2.2.2.2.2.2,H (Bh (a:=g) (by omega)), *]
  .exact{
   ok:=by grind
   ot:=by rw[z];exact a.ot.Ar λc b l=>q c b (a.d.l l)
   d:=(Cn.of λc l=>s c (a.ot.Cz l) (a.d.l l)).symm
   e:=λc b=>⟨(q.M (a.e.lv b) (a.fk c b)).t (a.e.M b),q.lv (a.e.lv b) (a.fk c b)⟩
   fk:=λc b=>s c (a.e.lv b) (a.fk c b)
   ft:=a.ft}
def wJ(k:C AE)(xq:EW k){f o:D}{g:AE}{x5:N}(X:k[f]? =A g)(xR:g.I[o]? =A x5)(x2 xv:K)(p:N){xb xc y t h:T}(xK:c.M xb=A (.I 1 (Bp k)))(xL:c.M xc=A (.I 2 (N.c ⟨x2,f⟩)))(xM:c.M y=A (.I 2 (N.c ⟨xv,o⟩)))(xN:c.M t=A (.I 2 (N.c p)))(xO:c.M h=A (.I 1 [.sn]))(ya:Lv c xb)(xT:Lv c xc)(xU:Lv c y)(xz:Lv c t)(xA:Lv c h):∃b r u xE W,jj W9 170 5 [.p xb 0,.p xc 0,.p y 0,.p t 0,.p h 0] c=A (.AB [.S [b],xE,.n 0],W)/\CY W b r u (k.set f ⟨g.I.set o p,Gg o g.AV⟩)/\Aw W xE Bz.c 3 (G4 o p g.AV):=by
 have xo:=(AdN.1 X).1;let⟨b,r,u,l,xI,S,xF,xl⟩:=Z_ k xq c
 have xk:BU [b]=L:=by rw[DJ];simp[(Cr S.o).2]
 have xf:AX 1 (l.V (.I 1 [.sn])) [.p l.next 0,.S [b]]=A (AC,l.V (.I 1 [b])):=ET B xk;generalize xP:l.V (.I 1 [b])=q at xf;have xh:AH l q:=by rw[<-xP];exact AH.V _ _
 have V:q.M l.next=A (.I 1 [b]):=by grind
 have xa:Lv q l.next:=by grind
 generalize xs:l.next=z at xf V xa;have x0:¬Lv l z:=by rw[<-xs];exact EX _
 have xi:=S.ext xh;have xw:=λw=>x0 (S.lv w);let⟨xH,i,x3,yg,yh,x4,v,yb,xW,xZ⟩:=xi.Ep X xR p
 have x9:B8 b r u k.l xH:=.j ⟨f,xo,.i xZ⟩;have Y:(k.set f ⟨g.I.set o p,g.AV⟩)[f]? =A ⟨g.I.set o p,g.AV⟩:=by grind
 let⟨M,xu,_,x1,yc,xG⟩:=xi.at xo
 have E:=xF.AI xh;have xx:∀a,Lv q a->¬B8 b r u k.l a->i.M a=q.M a/\Lv i a:=by grind
 have xS:∀a,Lv c a->i.M a=c.M a/\Lv i a:=by grind
 let⟨x6,x7⟩:=xx z xa xw
 let⟨⟨xy,xg⟩,w,U,j⟩:=Dh (f:=λxt (xd:F×F) w=>jj W9 170 2 [.p y 0,.p t 0,.n xt,.p M (f*2),xd.1,.p z 0,xd.2,.p h 0] w)
  (λxt xd w xQ j=>Aar Y (xq.at X).2 xv p v xu P P P (xS t xz).2 xQ j) ({
  ok:=Aw.sn i,ot:=Aw.sn i,d:=Ku _,e:=λa m=>⟨B,m⟩
  fk:=λa _=>Cg a,ft:=λa _=>Cg a}:Yy i o p g.AV 0 (.sn,.sn) i)
 have U:jj W9 170 2 [.p y 0,.p t 0,.n 0,.p M (f*2),.sn,.p z 0,.sn,.p h 0] i=jj W9 170 2 [.p y 0,.p t 0,.n g.AV.l,.p M (f*2),xy,.p z 0,xg,.p h 0] w:=U;have xB:=j.ok;have xC:=j.ot;have Q:=j.fk;have xm:=j.ft;rw[Gz]at xB xC;let⟨I,R,yd,_,_,ye,yf,xj,xD,xX,xY⟩:=v.cq j.e.WU Y xB (Q.Kt v.o) (λx J=>by
  let⟨xe,Z⟩:=Bb J
  exact Q.Kt (v.c x xe Z)) (λx J s=>by
  let⟨xe,Z⟩:=Bb J
  exact Q.Kt (v.w x xe Z))
 have:I=M:=by grind
 subst this;rw[Ae5]at xj;have xV:Lv i I:=by rw[xW];exact xG.lv
 have x8:B8 b r u k.l I:=.i xY;have xr:∀a,Lv q a->¬B8 b r u k.l a->R.M a=q.M a/\Lv R a:=λa m s=>by have:=xx a m s;exact⟨(xD a P).t ((j.e.M P).t this.1),by rw[xX];exact j.e.lv this.2⟩
 refine⟨b,r,BW u f xy,xg,R.set h (.I 1 [b]),?_,xj.Ar λa m xp=>⟨?_,by grind⟩,xC.Ar λa m s=>⟨?_,?_⟩⟩;.have xJ:Bl 0 [.p I (f*2)]=A (.p I (f*2)):=B;rw[K4.2.2.1];simp only[QY,BB xK,xI,xs,xf,Ay V 0,Ay ((E.M xT).t xL) 1,xu,xJ,x1,Ay ((E.M xU).t xM) 1,BB ((E.M xz).t xN),x3,x4];rw[U,K4.2.2.2.2.1];simp only[QY,H B,H (Cp ((v.ext j.e).w f _ Y)),(CA g.AV.l),K4.2.2.2.1,H (BB ((xr z xa xw).1.t V)),H (Gb (((λa m=>(xr a (E.lv m) (xl a m)).1.t (E.M m)) h xA).t xO) B xk),H (BB (by rw[AN,Af B]):(R.set h (.I 1 [b])).AL h 0 1=A [b]), *]
 .rw[AN,Ad];intro n;subst n;rw[Aed]at xp;have xn:=E_.1 (xl _ xA);refine E_.2 ⟨xn.1,λx J=>⟨(xn.2 x J).1,?_⟩⟩ xp;by_cases n:x=f;.subst n;rw[Ec];exact Q _ P
  .rw[CE n];grind
 .rw[AN,Ad ((λa s n=>by subst n;exact s (xm a P):∀a,¬As xg a->a≠h) a s),xD a (λn=>by subst n;exact s (xm _ xV))]
 grind
def C9(a:C AE)(c b e:N):C AE×C Bz×K:=
 if G0 a c b=Aa then(a,[],0)
 else if(O8 a c b).Ak≠0 then(a,[],6)
 else(Ke a c.n (λd=>⟨d.I.set b.n.n e,Gg b.n d.AV⟩),(match Iq a c.n with|some d=>G4 b.n e d.AV|none=>[]),0)
variable{e h:F}
def o3{d:C AE}{g:C Bz}(i:Fz 3 a h (Z AE.c d))(j:Aw a e Bz.c 3 g)(b:K):Fz 5 a (.AB [.S [h],e,.n b]) (.AB [.S (Bp d),Z Bz.c g,.n b]):=
 Fz.AB (Cw.cons (Fz.S (Cw.cons i (Cw.nil _ _))) (Cw.cons ((Fz.Cs (b:=Bz.c) (h:=3) (λ_=>B) (λ_=>B) j).up (by omega)) (Cw.cons ((Fz.im (c:=a) (a:=.n b) B).up (by omega)) (Cw.nil _ _))))
def po(a:C AE)(S:EW a)(b c f:N)(U:Kd a b):AY 170 [.S (Bp a),.S (N.c b),.S (N.c c),.S (N.c f)] (.AB [.S (Bp (C9 a b c f).1),Z Bz.c (C9 a b c f).2.1,.n (C9 a b c f).2.2]):=by
 have v:G.Aq.next=.h:=B
 have w:(G.Aq.V (.I 1 (Bp a))).next=.o .h:=B
 have x:((G.Aq.V (.I 1 (Bp a))).V (.I 2 (N.c b))).next=.i .h:=B
 have y:(((G.Aq.V (.I 1 (Bp a))).V (.I 2 (N.c b))).V (.I 2 (N.c c))).next=.o (.o .h):=B
 have z:((((G.Aq.V (.I 1 (Bp a))).V (.I 2 (N.c b))).V (.I 2 (N.c c))).V (.I 2 (N.c f))).next=.i (.o .h):=B
 generalize s:((((G.Aq.V (.I 1 (Bp a))).V (.I 2 (N.c b))).V (.I 2 (N.c c))).V (.I 2 (N.c f))).V (.I 1 [.sn])=e
 have p:e.M .h=A (.I 1 (Bp a)):=by grind
 have q:e.M (.o .h)=A (.I 2 (N.c b)):=by grind
 have r:e.M (.i .h)=A (.I 2 (N.c c)):=by grind
 have xf:e.M (.o (.o .h))=A (.I 2 (N.c f)):=by grind
 have R:e.M (.i (.o .h))=A (.I 1 [.sn]):=by grind
 have xk:Lv e .h:=by grind
 have xl:Lv e (.o .h):=by grind
 have xm:Lv e (.i .h):=by grind
 have xn:Lv e (.o (.o .h)):=by grind
 have xo:Lv e (.i (.o .h)):=by grind
 have xb:e.AL .h 0 1=A (Bp a):=BB p
 have xc:e.AL (.o .h) 0 2=A (N.c b):=BB q
 have xa:e.AL (.i .h) 0 2=A (N.c c):=BB r
 have J:e.Ap (.o .h) 1=A (.n b.n):=Ay q 1
 have P:e.Ap (.i .h) 1=A (.n c.n):=Ay r 1
 have M:e.Ap .h 0=A (Z AE.c a):=Ay p 0
 have xs:AX 1 e [.p (.i (.o .h)) 0,.S (Bp a)]=A (AC,e.set (.i (.o .h)) (.I 1 (Bp a))):=Gb R B B
 have xt:(e.set (.i (.o .h)) (.I 1 (Bp a))).AL (.i (.o .h)) 0 1=A (Bp a):=BB (by rw[AN,Af B])
 have xd:∀(k:K),(∃m,xx W9 170 [.S (Bp a),.S (N.c b),.S (N.c c),.S (N.c f)] G.Aq=A (.AB [.S (Bp a),.sn,.n k],m))->AY 170 [.S (Bp a),.S (N.c b),.S (N.c c),.S (N.c f)] (.AB [.S (Bp a),Z Bz.c [],.n k]):=λk i=>by
  let⟨m,i⟩:=i
  exact EV B B i B
 have h:=fK a S b c U
 unfold C9
 cases o:G0 a b c with
 |false=>rw[o]at h;rw[Af B];refine xd 0 ?_;rw[K4.1];simp only[↓GS,↓Q,↓QD,v,w,x,y,z];rw[s];simp only[QY,h.H B,QB, *];grind
 |true=>
  rw[o]at h;rw[Ad (by grind)];let⟨I,u,g,E,t,T,n,W,xg,_,_,V⟩:=Sw U o
  have Y:AR 2 [Z N.c g.I,.n c.n]=A (.pi (N.c E)):=by rw[n];exact HZ W
  have X:AR 2 [Z AE.c a,.n b.n]=A (.pi (AE.c g)):=by rw[t];exact M2 T
  have l:=DW .u8 E.Ak 0;rw[xg];by_cases j:E.Ak=0
  .rw[A0 j]at l;rw[Ad (λi=>i j)];have xj:(Ke a b.n λg=>⟨g.I.set c.n.n f,Gg c.n g.AV⟩)=a.set I ⟨g.I.set u f,Gg u g.AV⟩:=by unfold Ke;rw[V];simp only[];rw[t,n];rfl
   have xi:b=⟨b.Ak,I⟩:=by rw[<-t]
   have xh:c=⟨c.Ak,u⟩:=by rw[<-n]
   have F:=q;have H:=r;rw[xi]at F;rw[xh]at H;let⟨xr,xu,xv,xq,m,k,xe,xp⟩:=wJ a S T W b.Ak c.Ak f p F H xf R xk xl xm xn xo
   rw[xj,V,n];refine Fz.Oc B B (f:=.AB [.S [xr],xq,.n 0]) (d:=m) (c:=5) ?_ (o3 xe.fz xp 0) (by omega);rw[K4.1];simp only[↓GS,↓Q,↓QD,v,w,x,y,z];rw[s];simp only[QY,xb,xc,xa,h.H B,QB,K4.2.1,M,J,X,P,Y,l];grind
  .rw[A2 j]at l;rw[Af j];refine xd 6 ?_;rw[K4.1];simp only[↓GS,↓Q,↓QD,v,w,x,y,z];rw[s];simp only[QY,xb,xc,xa,h.H B,QB,K4.2.1,M,J,X,P,Y,l,xs,xt];grind
variable{n:F}{o:Type}
def a7{d:C o}{g:o->Ah}{e:D->G->R}{k:G->R}{f:G->Prop}(x:∀b h a,d[b]? =A h->f a->g h=L->∃c,e b a=e (b+1) c/\f c)(t:∀b h a,d[b]? =A h->f a->g h=Aa->∃c,e b a=A (n,c))(s:∀a,f a->e d.l a=k a):∀a,f a->(d.all g=L->∃c,e 0 a=k c/\f c)/\(d.all g=Aa->∃c,e 0 a=A (n,c)):=by
 have r:∀j b a,d.l-b=j->b<=d.l->f a->((d.d b).all g=L->∃c,e b a=k c/\f c)/\((d.d b).all g=Aa->∃c,e b a=A (n,c)):=by
  intro j
  induction j with
  |zero=>
   intro b a q p m;have:b=d.l:=by omega
   grind
  |succ j w=>
   intro b a q p m;let⟨h,v,u⟩:=Ds (b:=d) (a:=b) (by omega)
   grind
 intro a m;have:=r d.l 0 a (by omega) (by omega) m;grind
def KK(c:K)(a:AE):Ah:=(a.I.all λd=>Hd d c)&&a.AV.all λb=>BK b.B0 0 (a.I.l-1)&&Ao (((a.I[b.B0.n]?).g AO).Ak=0)
def I1(a:C AE):K:=if(a.all (KK a.l)&&Ao (BH a<=6000))=L then 0 else 4
def Hx(b:N)(a:C K):N×C K:=if b.Ak=4 then(⟨b.Ak,((a.idxOf b.n:D):K)⟩,if a.idxOf b.n=a.l then a++[b.n]else a)else(b,a)
def Cf:C N->C K->C N×C K
 |[],a=>([],a)
 |b::c,a=>((Hx b a).1::(Cf c (Hx b a).2).1,(Cf c (Hx b a).2).2)
def cg(c:N):∀b a,Cf (b++[c]) a=((Cf b a).1++[(Hx c (Cf b a).2).1],(Hx c (Cf b a).2).2)
 |[],a=>rfl
 |d::b,a=>by show((Hx d a).1::(Cf (b++[c]) (Hx d a).2).1,(Cf (b++[c]) (Hx d a).2).2)=_;rw[cg c b];rfl
def TF:∀a b,(Cf a b).1.l=a.l
 |[],b=>rfl
 |c::a,b=>by show(Cf a _).1.l+1=_;rw[TF a];rfl
def uO(b:N)(a:C _):(Hx b a).2.l<=a.l+1:=by
 unfold Hx;split;.grind
 .simp
def cf:∀b a,(Cf b a).2.l<=a.l+b.l
 |[],a=>CK _
 |c::b,a=>by show(Cf b (Hx c a).2).2.l<=_;have d:=cf b (Hx c a).2;have e:=uO c a;rw[Aec];omega
structure Wa(h:C N)(j:C K)(i:G)(e:T)(k f:F)(g:D)(c:F)(b:G):Prop where
 oc:Aw b f N.c 2 ((Cf (h.t g) j).1++h.d g)
 oo:Aw b c Be 1 (Cf (h.t g) j).2
 gq:b.M e=A (.I 1 [c])
 lq:Lv b e
 aq:As c e
 cq:As f e
 d:Cn f c
 BO:∀a,Lv i a->a≠e->As k a->b.M a=i.M a/\Lv b a/\As c a
def bE(a:F):C F:=[a]
structure L8(h:C N)(g:C (C N))(d:T)(e c:F)(f:C F)(b:G):Prop where
 ov:Aw b e N.c 2 h
 os:Aw b c bE 1 f
 all:FN (λa i=>Aw b a N.c 2 i) f g
 gx:b.M d=A (.I 2 [e,c])
 lx:Lv b d
 IC:∀a,a=e\/a∈f->As a d/\Cn a c
 sx:As c d
def Lj(f:T)(c d:F)(e:C F)(a:T):Prop:=a=f\/¬As d a\/∃b,(b=c\/b∈e)/\¬As b a
def FN.Am{d h:Type}{a:d->h->Prop}{b:C _}{f:C _}(e:FN a b f){c:d}(i:c∈b):∃g,a c g:=by
 induction e with
 |nil=>grind
 |cons k _ j=>grind
def FN.gS{h i:Type}{c d:h->i->Prop}{a:C _}{f:C _}(e:FN c a f)(k:∀b g,b∈a->c b g->d b g):FN d a f:=by
 induction e with
 |nil=>exact .nil
 |cons e _ j=>exact .cons P P
variable{g:F}
def L8.lv{k:C N}{j:C (C N)}{d:F}{h:C F}{e:G}(b:L8 k j i d g h e){f:T}(a:Lj i d g h f):Lv e f:=by
 rcases a with rfl|a|⟨l,c,a⟩;.exact b.lx
 .exact b.os.Cz a
 .rcases c with rfl|c;.exact b.ov.Cz a
  .let⟨m,_⟩:=b.all.Am c
   grind
variable{f:F}{k:G}
def L8.Ar{l:C N}{j:C (C N)}{e:T}{i:C F}{g:G}(b:L8 l j e f h i k)(c:∀a,Lj e f h i a->g.M a=k.M a/\Lv g a):L8 l j e f h i g where
 ov:=b.ov.Ar λa _ d=>c a (.j (.j ⟨f,.i B,d⟩))
 os:=b.os.Ar λa _ d=>c a (.j (.i d))
 all:=b.all.gS λo p m n=>n.Ar λa _ d=>c a (.j (.j ⟨o,.j m,d⟩))
 gx:=(c e (.i B)).1.t b.gx
 lx:=(c e (.i B)).2
 IC:=b.IC
 sx:=b.sx
def L8.add{S:C N}{y:C (C N)}{c:T}{l:F}{p:C F}{j:G}(b:L8 S y c f n p j){q:C N}(u:Aw j l N.c 2 q)(E:∀a,Lj c f n p a->As l a)(xn:p.l<100000):
  ∃h g k,(∀(x:F×G->R),((Dq 1 1 j.next [l]).b λa=>(DN 1 24 (G.V j a.1) [n,a.2]).b x)=x (h,g))/\AX 1 g [.p c 1,h]=A (AC,k)/\L8 S (y++[q]) c f h (p++[l]) k/\
   (∀a,Lv j a->¬Lj c f n p a->k.M a=j.M a/\Lv k a/\(As l a->¬Lj c f h (p++[l]) a)):=by
 have X:BU (bE l)=L:=by unfold bE;rw[DJ];simp[(Cr u).2]
 let⟨h,g,xe,v,z,V⟩:=FJ (w:=1) (h:=24) (λ_=>B) X (Cr u).1 b.os (DG (by omega))
 have r:=Gx (d:=1) ((z.M b.lx b.sx).t b.gx) (by omega) (by omega) (Cr v).1 (Cr v).2
 have xg:Dg 1 [h] [f,n]=[f,h]:=B
 rw[xg]at r
 have xb:∀a,a≠c->(g.set c (.I 2 [f,h])).M a=g.M a:=λa m=>by rw[AN,Ad m]
 have H:(g.set c (.I 2 [f,h])).M c=A (.I 2 [f,h]):=by rw[AN,Af B]
 have I:∀a,Lv (g.set c (.I 2 [f,h])) a=Lv g a:=by grind
 generalize g.set c (.I 2 [f,h])=k at r xb H I
 have xk:=E c (.i B)
 have Y:=V c b.lx b.sx
 have xm:=(Cn.of λa t=>E a (.j (.i t))).symm
 have s:∀a,Lv j a->As n a->a≠c->k.M a=j.M a/\Lv k a:=by grind
 have J:∀{d:F}{a:T},As d c->¬As d a->a≠c:=by grind
 refine⟨h,g,k,xe,r,?_,λa m i=> ?_⟩
 .exact{
  ov:=b.ov.Ar λa m i=>s a m ((b.IC f P).2.r i) (J (b.IC f P).1 i)
  os:=v.Ar P
  all:=(b.all.gS λd q e M=>M.Ar λa m i=>s a m ((b.IC d P).2.r i) (J (b.IC d P).1 i)).VS (u.Ar P)
  gx:=H
  lx:=by rw[I];exact z.lv b.lx b.sx
  IC:=λd e=>by
   have Q:∀{U:Type}{xa:U->C F}{xi:D}{xf:C U},Aw j d xa xi xf->Cn d n->Cn d h:=λM xl=>Cn.of P;rcases e with rfl|e;.exact⟨(b.IC d P).1,Q b.ov (b.IC d P).2⟩
   .rcases Aej.1 e with e|e
    .let⟨q,xd⟩:=b.all.Am e
     exact⟨(b.IC d P).1,Q xd (b.IC d (.j e)).2⟩
    .grind
  sx:=Y}
 .have W:=AdS λt=>i (.j (.i t));have xh:=λZ=>i (.i Z);refine⟨P,(s a m W xh).2,λxj xc=> ?_⟩;rcases xc with rfl|g|⟨d,e,g⟩;.grind
  .grind
  .rcases e with rfl|e;.exact i (.j (.j ⟨d,.i B,g⟩))
   .rcases Aej.1 e with e|e;.exact i (.j (.j ⟨d,.j e,g⟩))
    grind
def L8.fz{f:C N}{b:C (C N)}{c:F}{h:C F}{d:G}(a:L8 f b i c e h d):Fz 4 d (.S [c,e]) (.S (Ci.c ⟨f,b⟩)):=
 Fz.S (Cw.cons ((Fz.Cs (h:=2) (λ_=>B) (λ_=>B) a.ov).up (by omega)) (Cw.cons (Fz.Rt (f:=1) (by omega) (λ_=>B) (λ_=>B) a.os (a.all.imp λj k g=>Cw.cons (Fz.Cs (λ_=>B) (λ_=>B) g) (Cw.nil _ _))) (Cw.nil _ _)))
def Vd(a:C AE):Prop:=∀b∈a,∀c∈b.I,Kd a c
def OZ(b:C AE)(a:C K):Prop:=a.Nodup/\∀c∈a,∃d,Iq b c=A d
def bS:∀(b:D)(a:C K),a.Nodup->(∀d∈a,0<=d/\d<b)->a.l<=b
 |0,a,_,c=>by
  cases a with
  |nil=>grind
  |cons f i=>have:=c f P;omega
 |b+1,a,e,c=>by
  by_cases g:(b:K)∈a;.have h:=bS b (a.erase b) P P;grind
  .have:=bS b a e P;omega
def OZ.le{b:C _}{c:C K}(a:OZ b c):c.l<=b.l:=bS _ _ a.1 λf d=>by
 let⟨i,e⟩:=a.2 f d
 obtain⟨h,rfl,g⟩:=Mt e;grind
def uP{b:C AE}{e:N}{d:C K}(c:OZ b d)(f:Kd b e):OZ b (Hx e d).2:=by
 unfold Hx;split
 .rename_i g;split
  .rename_i k;refine⟨AfZ.2 ⟨c.1,(by simp),λi l j m=> ?_⟩,λh a=> ?_⟩;.grind
   .rcases Aej.1 a with a|a;.exact c.2 h a
    .rw[AeW.1 a];exact f g
  omega
 omega
def VI{c:C AE}:∀a {d:C K},OZ c d->(∀e∈a,Kd c e)->OZ c (Cf a d).2
 |[],_,b,_=>b
 |e::a,d,b,f=>VI a (uP b P) P
def I0(a:C AE)(b:K):C N:=match Iq a b with|some c=>c.I|none=>[]
def IA(b:C AE):D->D->C (C N)->C K->C (C N)
 |0,_,a,_=>a
 |f+1,d,a,c=>match c[d]?with
  |none=>a
  |some e=>IA b f (d+1) (a++[(Cf (I0 b e) c).1]) (Cf (I0 b e) c).2
def GC(b:C AE)(a:C N):Ci:=⟨(Cf a []).1,IA b 401 0 [] (Cf a []).2⟩
structure V_(m:C N)(i:G)(d h:T)(e:F)(k:D)(j:C (C N))(l:C K)(g:C F)(f c:F)(b:G):Prop where
 P:L8 m j h e f g b
 ac:j.l=k
 oo:Aw b c Be 1 l
 gq:b.M d=A (.I 1 [c])
 lq:Lv b d
 oq:As c d
 L1:∀a,Lj h e f g a->a≠d/\As c a
 BO:∀a,Lv i a->a≠d->b.M a=i.M a/\Lv b a/\¬Lj h e f g a/\As c a
def Ur(a:C AE)(b:C N):Ci×K:=
 if I1 a≠0 then(⟨[],[]⟩,I1 a)
 else if 100<b.l\/(b.all λc=>Hd c a.l)=Aa then(⟨[],[]⟩,2)
 else(GC a b,0)
def Xp{c:C _}{b:N}(a:Hd b c.l=L):Kd c b:=λd=>by
 rw[Ph b (by omega)]at a;unfold Gt at a;rw[d,Ad (by grind),Ad (by grind),Ad (by grind),Af B]at a;unfold BK at a;simp only[AdO,AdV]at a;let⟨e,_⟩:=Bb (b:=c) (a:=b.n.n) (by omega)
 refine⟨e,?_⟩;unfold Iq;grind
def ed{c:C AE}(b:I1 c=0):Vd c:=λe d g f=>by
 unfold I1 at b;split at b;.rename_i a;rw[AdO]at a;have:=Aei.1 a.1 e d;unfold KK at this;rw[AdO]at this;exact Xp P
 omega
structure P1(e:C AE)(c:T)(b:F)(d f:D->F)(a:G):Prop where
 M:CY a b d f e
 gx:a.M c=A (.I 1 [b])
 lx:Lv a c
 nx:¬B8 b d f e.l c
def P1.Ar{g:C _}{c:T}{d i:D->F}{e f:G}(b:P1 g c h d i e)(j:∀a,Lv e a->a=c\/B8 h d i g.l a->f.M a=e.M a/\Lv f a):P1 g c h d i f where
 M:=b.M.Ar P
 gx:=(j c b.lx P).1.t b.gx
 lx:=(j c b.lx P).2
 nx:=b.nx
def P1.add{b:C AE}{d:T}{i j:D->F}(o:P1 b d n i j k){p:AE}(Z:Aw k f N.c 2 p.I)(xa:Aw k h BJ.c 2 p.AV)(Q:Cn f h)(U:∀r,r=d\/B8 n i j b.l r->As f r/\As h r)(W:b.l<1000000):
  ∃c e l,(∀(E:F×G->R),((Dq 1 2 k.next [.S [f,h]]).b λa=>(DN 2 48 (G.V k a.1) [n,a.2]).b E)=E (c,e))/\AX 1 e [.p d 0,c]=A (AC,l)/\l.M d=A (.I 1 [c])/\
   P1 (b++[p]) d c (BW i b.l f) (BW j b.l h) l/\(∀a,Lv k a->a≠d->¬B8 n i j b.l a->l.M a=k.M a/\Lv l a/\(As f a->As h a->¬B8 c (BW i b.l f) (BW j b.l h) (b++[p]).l a)):=by
 have t:∀{z:F},(∀a,¬As z a->B8 n i j b.l a)->Cn z f/\Cn z h:=λy=>⟨Cn.of P,Cn.of λa m=>(U a (.j (y a m))).2⟩
 have S:=t (z:=n) λa m=>.i m
 let⟨c,e,y,s,H,xb⟩:=o.M.Es Z xa Q P S.2 (λg q=>by have xc:=t (z:=i g) λa m=>.j ⟨g,q,.i m⟩;have xd:=t (z:=j g) λa m=>.j ⟨g,q,.j m⟩;grind) W
 have xj:=E_.1 o.nx
 have J:=TL ((H.M o.lx P).t o.gx) (Cr s.o).1 (Cr s.o).2
 have V:∀a,a≠d->(e.set d (.I 1 [c])).M a=e.M a:=λa x=>by rw[AN,Ad x]
 have w:(e.set d (.I 1 [c])).M d=A (.I 1 [c]):=by rw[AN,Af B]
 have I:∀a,Lv (e.set d (.I 1 [c])) a=Lv e a:=by grind
 generalize e.set d (.I 1 [c])=l at J V w I
 have xh:(b++[p]).l=b.l+1:=by simp
 have X:∀a,Lv k a->As n a->(∀g,g<b.l->As (i g) a/\As (j g) a)->As f a->As h a->¬B8 c (BW i b.l f) (BW j b.l h) (b++[p]).l a:=λa x e l xf xg=>by
  refine E_.2 ⟨P,λg q=> ?_⟩;by_cases v:g=b.l;.subst v;rw[Ec,Ec];grind
  .rw[CE v,CE v];grind
 have Y:=X d o.lx P P P P
 refine⟨c,e,l,y,J,w,?_,λa x xi q=> ?_⟩
 .exact{M:=s.Ar P,gx:=w,lx:=by rw[I];exact H.lv o.lx P,nx:=Y}
 .have xe:=E_.1 q;grind
theorem jC(c:T)(a b:N):Dq 2 2 c [.S (N.c a),.S (N.c b)]=A (.I 4 ([a,b].f N.c),.Z c 0 2 3 2):=rfl
def iL(a:G)(b c:N):Aw (a.V (.I 4 ([b,c].f N.c))) (.Z a.next 0 2 3 2) N.c 2 [b,c]:=.j ⟨a.next,3,B,P,P,P⟩
def EY(c a d:K)(b:Ah):N:=if a<d then JJ (c+a)else if b=L then D4 else AO
def gl(d c k:K)(j:Ah)(p:0<=d/\d<=1000000)(o:0<=c/\c<=10000000):AY 125 [.n d,.n c,.n k,.b j] (.S (N.c (EY d c k j))):=Bu B B B (by
 have n:=F2 (a:=d) (b:=c) (by omega) (by omega);have h:∀e:N,AX 2 (G.Aq.V (.I 2 [.i .u8 0,.n 0])) [.p .h 0,.S (N.c e)]=A (AC,(G.Aq.V (.I 2 [.i .u8 0,.n 0])).set .h (.I 2 (N.c e))):=λe=>Gb (by rfl) B B;have g:∀e:N,((G.Aq.V (.I 2 [.i .u8 0,.n 0])).set .h (.I 2 (N.c e))).AL .h 0 2=A (N.c e):=λe=>BB (by rw[AN,Af B]);have m:G.Aq.next=.h:=B;generalize l:G.Aq.V (.I 2 [.i .u8 0,.n 0])=i at h g;rw[hf.1];unfold EY;by_cases f:c<k;.rw[Af f];refine⟨i.set .h (.I 2 (N.c (JJ (d+c)))),?_⟩;simp only[QY,(fI (d+c)).H B,H (h _),H (g _), *]
 .rw[Ad f]
  cases j with
  |true=>refine⟨i.set .h (.I 2 (N.c D4)),?_⟩;simp only[QY,m,l,reduceIte,f,QB,ai.H B,h _,g _]
  |false=>refine⟨i.set .h (.I 2 (N.c AO)),?_⟩;simp only[↓Q,m,l,↓reduceIte,↓QT,AdM,f,QB,hf.2,↓QE,↓H (h _),↓H (g _)])
def Jd(b d:K)(a:Ah):D->C K->C AE
 |_,[]=>[]
 |c,f::e=>⟨[EA f,EY b (c+1:D) d a],[]⟩::Jd b d a (c+1) e
def a4(d e:K)(c:Ah)(f:K):∀(b:C _)(a:D),Jd d e c a (b++[f])=Jd d e c a b++[⟨[EA f,EY d (a+b.l+1:D) e c],[]⟩]
 |[],a=>rfl
 |g::b,a=>by show _::Jd _ _ c (a+1) (b++[f])=_::(Jd d e c (a+1) b++_);rw[a4 d e c f b (a+1),Aec,show a+1+b.l+1=a+(b.l+1)+1 by omega]
def U5(d e:K)(b:Ah):∀(a:C _)(c:D),(Jd d e b c a).l=a.l
 |[],c=>rfl
 |f::a,c=>by show(Jd _ _ b _ a).l+1=_;rw[U5 _ _ b a _];rfl
def NV(b:C AE×C N)(a:C K×Ah):C AE×C N:=(b.1++Jd b.1.l a.1.l a.2 0 a.1,b.2++[EY b.1.l 0 a.1.l a.2])
def Kp(a:C (C K×Ah)):C AE×C N:=a.foldl NV ([],[])
def Y4{b:C _}{a:D}{c:C _×Ah}(d:b[a]? =A c):Kp (b.t (a+1))=NV (Kp (b.t a)) c:=by unfold Kp;rw[<-FL d,Af0];rfl
def D3:C (C K)->D
 |[]=>0
 |a::b=>a.l+D3 b
def TO{c:C (C K)}{a:D}{b:C K}(e:c[a]? =A b):D3 (c.t (a+1))=D3 (c.t a)+b.l:=by
 induction c generalizing a with
 |nil=>grind
 |cons d f g=>
  cases a with
  |zero=>cases e;show b.l+0=0+b.l;omega
  |succ a=>show d.l+D3 _=d.l+D3 (f.t a)+b.l;grind
def cD{b:C (C K)}(a:D):D3 (b.t a)<=D3 b:=by
 induction b generalizing a with
 |nil=>simp
 |cons d c e=>
  cases a with
  |zero=>exact AeA _
  |succ a=>show d.l+D3 (c.t a)<=d.l+D3 c;grind
def Uj{b:C (C K)}{c:C Ah}:∀{a:D},a<=b.l->b.l=c.l->(Kp ((b.zip c).t a)).1.l=D3 (b.t a)/\(Kp ((b.zip c).t a)).2.l=a
 |0,_,_=>⟨B,B⟩
 |a+1,k,e=>by
  let⟨h,f⟩:=Bb (b:=b) (a:=a) (by omega)
  let⟨d,j⟩:=Bb (b:=c) (a:=a) (by omega)
  have g:(b.zip c)[a]? =A (h,d):=by grind
  have m:=Uj (b:=b) (c:=c) (a:=a) (by omega) e;rw[Y4 g,TO f];unfold NV;simp only[AdY,U5,AeE];omega
def I7(a:K):Ah:=BK a (-1000000000) 1000000000
theorem Mm{d:Type}(c:G)(b:C K)(a:F->Ae d):(AM c [.pi (Cv b)]).b a=a (Z Be b):=rfl
theorem XB{d:Type}(c:G)(b:K)(a:F->Ae d):(AM c [.pi (Be b)]).b a=a (.n b):=rfl
theorem XA{d:Type}(c:G)(b:Ah)(a:F->Ae d):(AM c [.pi (CN b)]).b a=a (.b b):=rfl
theorem tt(b:G)(a:C K):Bv .Cq [.pi (Cv a)] b (Z Be a)=L:=L0 _
theorem ts(b:G)(a:Ah):Bv .Cq [.pi (CN a)] b (.b a)=L:=L0 _
section
variable(t:C (C K)) (u:C Ah)
theorem dx{a:T}{b:G}(c:b.M a=A (.I 1 [.sn])):AX 1 b [.p a 0,.S [.sn]]=A (AC,b.set a (.I 1 [.sn]))/\(b.set a (.I 1 [.sn])).AL a 0 1=A [.sn]:=⟨Gb c B B,BB (by rw[AN,Af B])⟩
theorem WG:Cb [.sn] [] []=A (.S [.sn]):=rfl
theorem rB{c:T}{g:D}{h:C K}(n:t[g]? =A h)(s:h.l<=2000000)(k:K){b:G}(p:b.M c=A (.I 1 [.sn])):(h.all I7=L->∃a,jj W9 74 14 [.n 0,.n k,.n g,Z Cv t,Z CN u,.p c 0] b=jj W9 74 13 [.n k,.n g,Z Cv t,Z CN u,.p c 0] a/\a=b)/\(h.all I7=Aa->∃a,jj W9 74 14 [.n 0,.n k,.n g,Z Cv t,Z CN u,.p c 0] b=A (.AB [.S [.sn],.sn,.n 3],a)):=by
 let⟨q,r⟩:=dx p
 refine a7 (e:=λl b=>jj W9 74 14 [.n l,.n k,.n g,Z Cv t,Z CN u,.p c 0] b) ?_ ?_ ?_ b B;.intro l j a f e m;subst e;have o:=Cm (AdN.1 f).1;have d:=Lz j (-1000000000) 1000000000;rw[show BK j (-1000000000) 1000000000=L from m]at d;refine⟨a,?_,B⟩;rw[FW.2.2.2.2.2.2.2.1];simp only[QY,I9 n,Mm,o,FW.2.2.2.2.2.2.2.2.1,UJ f,XB,d.H B,FW.2.2.2.2.2.2.2.2.2.1,Bh (a:=l) (by omega)]
 .intro l j a f e m;subst e;have d:=Lz j (-1000000000) 1000000000;rw[show BK j (-1000000000) 1000000000=Aa from m]at d;refine⟨a.set c (.I 1 [.sn]),?_⟩;rw[FW.2.2.2.2.2.2.2.1];simp only[QY,I9 n,Mm,(Cm (AdN.1 f).1),FW.2.2.2.2.2.2.2.2.1,UJ f,XB,d.H B,WG,q,r]
 .intro a e;subst e;rw[FW.2.2.2.2.2.2.2.1];simp only[Q,QT,AdM,H (I9 n),Mm,(CA h.l)]
theorem AaB(N:t.l<=2000000)(z:∀c∈t,c.l<=2000000){h:T}{e:G}(x:e.M h=A (.I 1 [.sn])):(t.all (λc=>c.all I7)=L/\jj W9 74 11 [.n 0,.n 0,Z Cv t,Z CN u,.p h 0] e=jj W9 74 10 [.n (D3 t),Z Cv t,Z CN u,.p h 0] e)\/(t.all (λc=>c.all I7)=Aa/\∃f,jj W9 74 11 [.n 0,.n 0,Z Cv t,Z CN u,.p h 0] e=A (.AB [.S [.sn],.sn,.n 3],f)):=by
 refine MU (f:=t.l) (d:=λg (d:D) e=>jj _ _ 11 [.n g,.n d,Z Cv t,Z CN u,.p h 0] e) (e:=λg d f=>f=e/\d=D3 (t.t g)/\d<=g*2000000/\(t.t g).all (λc=>c.all I7)=L)
  (g:=λw=>(t.all (λc=>c.all I7)=L/\w=jj W9 74 10 [.n (D3 t),Z Cv t,Z CN u,.p h 0] e)\/(t.all (λc=>c.all I7)=Aa/\∃f,w=A (.AB [.S [.sn],.sn,.n 3],f))) ?_ ?_ (b:=0) ⟨B,B,by omega,B⟩
 .intro g d f v m
  obtain⟨rfl,k,y,j⟩:=m
  let⟨c,l⟩:=Bb v
  have E:=z c P
  have r:=Cm v
  let⟨J,M⟩:=rB t u l E d x
  cases o:c.all I7 with
  |true=>
   obtain⟨q,p,rfl⟩:=J o;left;refine⟨d+c.l,q,?_,B,by rw[TO l,k],by omega,?_⟩;.rw[FW.2.2.2.1];simp only[Q,QT,r,FW.2.2.2.2.1,p,FW.2.2.2.2.2.2.1,H (I9 l),Mm,H (F2 (a:=d) (b:=c.l) (by omega) (by omega)),FW.2.2.2.2.2.1,H (Bh (a:=g) (by omega)),AfD]
   .rw[<-FL l,AeG,j,Aer,o];rfl
  |false=>
   let⟨q,p⟩:=M o
   right;right;refine⟨?_,q,?_⟩;.grind
   .rw[FW.2.2.2.1];simp only[Q,QT,r,FW.2.2.2.2.1,p]
 .intro d f m;obtain⟨rfl,k,y,j⟩:=m;rw[Gz]at k j;subst k;left;refine⟨j,?_⟩;rw[FW.2.2.2.1];simp only[Q,QT,AdM,(CA t.l)]
end
structure Hj(i:G)(h:T)(c:C AE×C N)(f e:F)(d g:D->F)(b:G):Prop where
 B:P1 c.1 h f d g b
 ou:Aw b e N.c 2 c.2
 ux:∀a,¬As e a->a≠h/\¬B8 f d g c.1.l a
 BO:∀a,Lv i a->b.M a=i.M a/\Lv b a/\a≠h/\¬B8 f d g c.1.l a/\As e a
theorem Aaw{t:C (C K)}{u:C Ah}{I:G}{l W:T}{p g j:D}{k:C K}{o:Ah}{f:K}(xi:t[p]? =A k)(xh:u[p]? =A o)(U:k[g]? =A f)(xr:k.l<=2000000){h:C AE×C N}(xt:h.1.l<=400)(xq:j<=400){y r:F}{w E:D->F}{a:G}(c:Hj I l h y r w E a):
  ∃z xb xn S,jj W9 74 5 [.n g,r,.n j,.n p,Z Cv t,Z CN u,.p l 0,.p W 0] a=jj W9 74 5 [.n (g+1:D),r,.n j,.n p,Z Cv t,Z CN u,.p l 0,.p W 0] S/\
   Hj I l (h.1++[⟨[EA f,EY j (g+1:D) k.l o],[]⟩],h.2) z r xb xn S:=by
 have xa:=Cm (AdN.1 U).1
 have R:=gl j (g+1:D) k.l o (by omega) (by omega)
 generalize xs:EY j (g+1:D) k.l o=n at R
 have v:AH a (a.V (.I 4 ([EA f,n].f N.c))):=AH.V _ _
 have x:=iL a (EA f) n
 have J:∀b,Lv a b->As (.Z a.next 0 2 3 2) b:=λb d=>EN λxc=>by subst xc;exact EX a d
 have xm:=jC a.next (EA f) n
 have xd:Cb [.sn,.sn] [(0,1)] [.Z a.next 0 2 3 2]=A (.S [.Z a.next 0 2 3 2,.sn]):=B
 generalize xp:F.Z a.next 0 2 3 2=Y at x J xm xd
 generalize xg:a.V (.I 4 ([EA f,n].f N.c))=xe at v x
 let⟨z,xo,xf,xj,xw,_,X,M⟩:=(c.B.Ar λb d _=>⟨v.M d,v.lv d⟩).add (p:=⟨[EA f,n],[]⟩) x (Aw.sn xe) (Ku _) (λe m=>⟨J e ((λe m=>by
  rcases m with rfl|m;.exact c.B.lx
  .exact c.B.M.lv m:∀e,e=l\/B8 y w E h.1.l e->Lv a e) e m),Cg e⟩) (by omega)
 refine⟨z,BW w h.1.l Y,BW E h.1.l .sn,xf,?_,?_⟩
 .rw[FW.2.2.2.2.2.2.2.2.2.2.2.2.2.2.2.2.1];simp only[Q,QT,H (I9 xi),Mm,xa,FW.2.2.2.2.2.2.2.2.2.2.2.2.2.2.2.2.2.1,H (Ay c.B.gx 0),H (UJ U),XB,(Sz f).H B,(Ij c.B.gx B:Bv .Cq [.p l 0] a y=L),tt,ts,Lq,H (Bh (a:=g) (by omega)),H (Uf xh),XA,R.H B,xg,xj,FW.2.2.2.2.2.2.2.2.2.2.2.2.2.2.2.2.2.2,ZR, *]
 .exact{
  B:=X
  ou:=c.ou.Ar λb d q=>by have:=c.ux b q;grind
  ux:=λb q=>by have d:=c.ou.Cz q;have:=c.ux b q;exact⟨P,(M b P P P).2.2 P (Cg b)⟩
  BO:=λb d=>by
   let⟨xu,xv,V,xk,xl⟩:=c.BO b d
   exact⟨P,P,V,(M b P V xk).2.2 P (Cg b),xl⟩}
theorem tq{t:C (C K)}{u:C Ah}{n:G}{e m:T}{g:D}{b:C K}{d:Ah}(S:t[g]? =A b)(xb:u[g]? =A d)(xu:g<3000000){a:C AE×C N}(xv:a.1.l+b.l<=400)(xw:a.2.l<3000000){U k:F}{E W:D->F}{j:G}(o:Hj n e a U k E W j):∃V z J X p,jj W9 74 2 [Z Cv t,Z CN u,.n g,.p e 0,k,.p m 0] j=jj W9 74 2 [Z Cv t,Z CN u,.n (g+1:D),.p e 0,z,.p m 0] p/\Hj n e (NV a (b,d)) V z J X p:=by
 have xe:=Cp o.B.M.o;rw[Ad0]at xe;obtain⟨⟨xf,xa,xg⟩,xh,R,h⟩:=Dh
  (g:=λl v j=>Hj n e (a.1++Jd a.1.l b.l d 0 (b.t l),a.2) v.1 k v.2.1 v.2.2 j)
  (λl v j xk o=>by
   obtain⟨xr,xd⟩:=Bb xk;have xl:(a.1++Jd a.1.l b.l d 0 (b.t l)).l<=400:=by rw[AdY,U5,Aef];omega
   obtain⟨V,J,X,p,M,xs⟩:=Aaw (W:=m) (j:=a.1.l) S xb xd (by omega) xl (by omega) o;refine⟨(V,J,X),p,M,?_⟩;have xj:=a4 a.1.l b.l d xr (b.t l) 0;rw[FL xd,Aef,show min l b.l=l by omega,Ad2]at xj;grind)
  (b:=(U,E,W)) (by rw[Af1];show Hj n e (a.1++[],a.2) U k E W j;rw[Ad5];grind)
 have R:jj W9 74 5 [.n 0,k,.n a.1.l,.n g,Z Cv t,Z CN u,.p e 0,.p m 0] j=jj W9 74 5 [.n b.l,k,.n a.1.l,.n g,Z Cv t,Z CN u,.p e 0,.p m 0] xh:=R;rw[Gz]at h;obtain⟨z,xi,xn,xq,xt,Y⟩:=FJ (w:=2) (b:=EY a.1.l 0 b.l d) (o:=.S (N.c (EY a.1.l 0 b.l d))) (λ_=>B) B B h.ou (DG (by show(a.2.l+1)*16<=_;omega));have xm:∀c,c=e\/B8 xf xa xg (a.1++Jd a.1.l b.l d 0 b).l c->As k c:=λc q=>AdS λr=>by
  have:=h.ux c r;rcases q with rfl|q;.grind
  .grind
 refine⟨xf,z,xa,xg,xi,?_,?_⟩;.rw[FW.2.2.2.2.2.2.2.2.2.2.2.2.1];simp only[QY,(Cm (AdN.1 S).1),FW.2.2.2.2.2.2.2.2.2.2.2.2.2.1,Ay o.B.gx 0,xe];rw[R,FW.2.2.2.2.2.2.2.2.2.2.2.2.2.2.2.2.1];simp only[Q,QT,AdM,H (I9 S),Mm,(CA b.l),FW.2.2.2.2.2.2.2.2.2.2.2.2.2.2.2.1,H (Uf xb),XA,(gl a.1.l 0 b.l d (by omega) (by omega)).H B,xn,FW.2.2.2.2.2.2.2.2.2.2.2.2.2.2.1,H (Bh (a:=g) (by omega))]
 .exact{
  B:=h.B.Ar P
  ou:=xq
  ux:=λc r=>by
   constructor;.intro M;subst M;exact r (Y c h.B.lx P)
   .intro xc;exact r (Y c (h.B.M.lv xc) (xm c (.j xc)))
  BO:=λc q=>by
   let⟨xx,xy,xo,xp,xz⟩:=h.BO c q
   exact⟨P,P,xo,xp,P⟩}
def Co(t:C (C K))(u:C Ah):C AE×C N×K:=
 if t.l≠u.l then([],[],2)
 else if t.all (λa=>a.all I7)=Aa then([],[],3)
 else if 400<D3 t then([],[],5)
 else((Kp (t.zip u)).1,(Kp (t.zip u)).2,0)
theorem o1{a:G}{f e:F}{d:C AE}{c:C N}(g:Fz 3 a f (Z AE.c d))(h:Aw a e N.c 2 c)(b:K):Fz 5 a (.AB [.S [f],e,.n b]) (.AB [.S (Bp d),Z N.c c,.n b]):=
 Fz.AB (Cw.cons (Fz.S (Cw.cons g (Cw.nil _ _))) (Cw.cons ((Fz.Cs (h:=2) (λ_=>B) (λ_=>B) h).up (by omega)) (Cw.cons ((Fz.im B).up (by omega)) (Cw.nil _ _))))
theorem qF(t:C (C K))(u:C Ah)(xG:t.l<=2000000)(xn:∀v∈t,v.l<=2000000):AY 74 [Z Cv t,Z CN u] (.AB [.S (Bp (Co t u).1),Z N.c (Co t u).2.1,.n (Co t u).2.2]):=by
 have Y:G.Aq.next=.h:=B;generalize U:G.Aq.V (.I 1 [.sn])=a;have q:a.M .h=A (.I 1 [.sn]):=by grind
 have xs:Lv a .h:=by grind
 let⟨xa,xb⟩:=dx q
 have z:∀(c:K),(∃T,xx W9 74 [Z Cv t,Z CN u] G.Aq=A (.AB [.S [.sn],.sn,.n c],T))->AY 74 [Z Cv t,Z CN u] (.AB [.S (Bp []),Z N.c [],.n c]):=λc b=>by
  let⟨T,b⟩:=b
  exact EV B B b B
 unfold Co;by_cases E:t.l=u.l
 .rw[Ad Om];have o:t.l=u.l:=by omega
  have xc:∀{m:R},jj W9 74 11 [.n 0,.n 0,Z Cv t,Z CN u,.p .h 0] a=m->xx W9 74 [Z Cv t,Z CN u] G.Aq=m:=λ{m} c=>by rw[FW.1];simp only[↓Q,↓QT,Y,U,o,FW.2.1];grind
  rcases AaB t u (by omega) xn q with⟨J,c⟩|⟨J,S,c⟩
  .rw[J,Ad (by grind)];have j:=Ew .n (D3 t) 400;by_cases H:400<D3 t;.rw[A0 (by omega)]at j;rw[Af H];refine z 5 ⟨a.set .h (.I 1 [.sn]),xc ?_⟩;rw[c,FW.2.2.1];simp only[QY,j,WG,xa,xb]
   .rw[A2 (by omega)]at j;rw[Ad H];have xe:AH a (a.V (.I 1 [.sn])):=AH.V _ _;have r:(a.V (.I 1 [.sn])).M a.next=A (.I 1 [.sn]):=by grind
    have w:Lv (a.V (.I 1 [.sn])) a.next:=by grind
    have y:AX 1 (a.V (.I 1 [.sn])) [.p a.next 0,.S [.sn]]=A (AC,a.V (.I 1 [.sn])):=ET B B;have xt:¬Lv a a.next:=EX _;generalize xq:a.next=h at r w y xt;generalize xm:a.V (.I 1 [.sn])=k at xe r w y;let⟨⟨g,xd,xk,xA⟩,b,p,e⟩:=Dh (h:=t.l) (f:=λd (f:F×F×(D->F)×(D->F)) b=>jj W9 74 2 [Z Cv t,Z CN u,.n d,.p h 0,f.2.1,.p .h 0] b)
     (g:=λd f b=>Hj a h (Kp ((t.zip u).t d)) f.1 f.2.1 f.2.2.1 f.2.2.2 b)
     (λd f b V e=>by
      let⟨v,W⟩:=Bb V
      let⟨xi,xo⟩:=Bb (b:=u) (a:=d) (by omega)
      have xr:(t.zip u)[d]? =A (v,xi):=by grind
      let⟨xI,xJ⟩:=Uj (a:=d) (by omega) E
      have xK:=TO W;have xL:=cD (b:=t) (d+1);obtain⟨xz,xy,xl,xB,S,c,xE⟩:=tq W xo (by omega) (by omega) (by omega) e;refine⟨(xz,xy,xl,xB),S,c,?_⟩;rw[Y4 xr];grind)
     (b:=(.sn,.sn,λ_=>.sn,λ_=>.sn)) ({
     B:={M:=CY.nil _ _ _,gx:=r,lx:=w,nx:=E_.2 ⟨Cg _,P⟩}
     ou:=Aw.sn k
     ux:=λx X=>BF (Cg x) X
     BO:=λx xH=>⟨P,P,P,E_.2 ⟨Cg _,λd V=>by grind⟩,Cg x⟩}:Hj a h ([],[]) .sn .sn (λ_=>.sn) (λ_=>.sn) k)
    have p:jj W9 74 2 [Z Cv t,Z CN u,.n 0,.p h 0,.sn,.p .h 0] k=jj W9 74 2 [Z Cv t,Z CN u,.n t.l,.p h 0,xd,.p .h 0] b:=p;rw[Aeq (by grind)]at e;let⟨xu,xM,xN,xO,xP⟩:=e.BO .h xs
    have xh:BU [g]=L:=by rw[DJ];simp[(Cr e.B.M.o).2]
    have xw:=BB e.B.gx;have xC:=Gb (xu.t q) B xh;have xD:(b.set .h (.I 1 [g])).AL .h 0 1=A [g]:=BB (by rw[AN,Af B]);have xj:=CA t.l;have xf:CY (b.set .h (.I 1 [g])) g xk xA (Kp (t.zip u)).1:=e.B.M.Ar λxv xp xF=>⟨by rw[AN,Ad P],by grind⟩;have xg:Aw (b.set .h (.I 1 [g])) xd N.c 2 (Kp (t.zip u)).2:=e.ou.Ar λxv xp X=>⟨by rw[AN,Ad P],by grind⟩;refine Fz.Oc B B (xc ?_) (o1 xf.fz xg 0) (by omega);rw[c,FW.2.2.1];simp only[QY,j,FW.2.2.2.2.2.2.2.2.2.2.1,WG,xq,xm,y];rw[p,FW.2.2.2.2.2.2.2.2.2.2.2.2.1];simp only[QY,xj,FW.2.2.2.2.2.2.2.2.2.2.2.1,xw,xC,xD]
  grind
 .rw[Af E];have o:¬t.l=(u.l:K):=by omega
  refine z 2 ⟨a.set .h (.I 1 [.sn]),?_⟩;rw[FW.1];simp only[QY,Y,U,o,WG,xa,xb]
def eq{d:o->C F}{c m:D}(M:∀n,(d n).l=c)(J:∀n,BU (d n)=L){b:G}{a:C o}(v:Aw b g d c a)(T:a.l*m<=GA):∃j h,DN c m (b.V (.I 0 [])) [.Z b.next 0 0 1 c,g]=A (j,h)/\Aw h j d c a/\AH b h/\Dx b j:=by
 let⟨j,h,q,N,r,x⟩:=Vv (f:=d) (w:=c) (c:=[]) (a:=a) (i:=m) M (Rw b d c) (by grind)
 have p:AH b (b.V (.I 0 [])):=AH.V _ _;have y:∀e,Lv b e->As (.Z b.next 0 0 1 c) e:=λe i=>EN λq=>by subst q;exact EX b i
 have P:=v.ext p;have z:∀a:C o,BU (a.f d)=L:=λa=>by
  induction a with
  |nil=>rfl
  |cons n U s=>rw[DJ]at s⊢;rw[Aeh,AeG,s,<-DJ,J];rfl
 refine⟨j,h,?_,N,λe i=> ?_,λe i=>x e (p.lv i) (y e i)⟩
 .show(match Ii g with|some t=>(match F7 (b.V (.I 0 [])) c t g with|some u=>Aj (BU u) (Jo (b.V (.I 0 [])) c m (.Z b.next 0 0 1 c) t u) O|none=>O)|none=>O)=_;have r:Ii g=A a.l:=by rcases v with⟨rfl,rfl⟩|⟨k,E,rfl,_⟩<;>rfl
  have H:F7 (b.V (.I 0 [])) c a.l g=A (a.f d):=by
   rcases P with⟨rfl,rfl⟩|⟨k,E,rfl,R,I,S⟩;.rfl
   .show Aj (AW c c&&BX a.l a.l) (Aj (AW a.l 0) (A []) ((b.V (.I 0 [])).AL k 0 (a.l*c))) O=_;rw[Aee,AdX (CK _)];show Aj (AW a.l 0) (A []) ((b.V (.I 0 [])).AL k 0 (a.l*c))=_;by_cases Q:a.l=0
    .have:a=[]:=by grind
     subst this;rfl
    .rw[Gm Q];show(b.V (.I 0 [])).AL k 0 (a.l*c)=_;rw[D1 I,Af (by omega),Af B]
  rw[r];simp only[H];rw[z];grind
 .grind
theorem e0:HI Aa [.sn,.sn]=A (.b L):=rfl
theorem eZ(a:T)(d c b e:D):HI Aa [.Z a d c b e,.sn]=A (.b Aa):=rfl
def pG{d:C N}(q:Aw a g N.c 2 d)(s:d.l<1000000):∃c b,W9 (pos 177) [g] a=A (c,b)/\Aw b c N.c 2 d/\AH a b/\Dx a c:=by
 rcases q with⟨rfl,rfl⟩|⟨i,j,p,l,m,n⟩;.refine⟨.sn,a,AZ B B ?_,Aw.sn a,λe o=>⟨B,o⟩,λe _=>Cg e⟩;rw[aP.1];simp only[QY,e0]
 .subst p;let⟨c,b,t,r,k,h⟩:=eq (d:=N.c) (c:=2) (m:=16) (λ_=>B) (λ_=>B) (.j ⟨i,j,B,l,m,n⟩) (DG (by omega))
  refine⟨c,b,AZ B B ?_,r,k,h⟩;rw[aP.1];simp only[QY,H (eZ _ _ _ _ _),aP.2,H (NT 2 _), *]
def pH{d:C BJ}(q:Aw a g BJ.c 2 d)(s:d.l<1000000):∃c b,W9 (pos 178) [g] a=A (c,b)/\Aw b c BJ.c 2 d/\AH a b/\Dx a c:=by
 rcases q with⟨rfl,rfl⟩|⟨i,j,p,l,m,n⟩;.refine⟨.sn,a,AZ B B ?_,Aw.sn a,λe o=>⟨B,o⟩,λe _=>Cg e⟩;rw[aQ.1];simp only[QY,e0]
 .subst p;let⟨c,b,t,r,k,h⟩:=eq (d:=BJ.c) (c:=2) (m:=16) (λ_=>B) (λ_=>B) (.j ⟨i,j,B,l,m,n⟩) (DG (by omega))
  refine⟨c,b,AZ B B ?_,r,k,h⟩;rw[aQ.1];simp only[QY,H (eZ _ _ _ _ _),aQ.2,H (NT 2 _), *]
def IX.Cs{c:o->C _}{a:D}{g:G}{k:F}{j:C _}(d:∀b,(c b).l=a)(f:Aw g k c a j):IX (AH g) k a j (λb=>.S (c b)) (A9 a)where
 A7:=Cp f
 Zp:=λq b e=>by
  let⟨m,h⟩:=CD d f e
  refine⟨_,h.ia,λp l=> ?_⟩;let⟨n,i⟩:=CD d (f.ext l) e
  have:n=m:=by have:=i.ia;rw[h.ia]at this;cases this;rfl
  subst this;rw[F5,i.AL d e];rfl
def ls{f:G}{c:T}{b:K}(h:0<=b/\b<=1000000000)(k:f.M c=A (.I 1 [.n b]))(i:Lv f c)(l:C N):M4 (AH f) (pos 206) [.p c 0] l (λa=>.S (N.c a)) (λa=> !Hd a b):=λa _ e d=>by have g:=W_ a b h;rw[<-Ph a h.1]at g;refine⟨e.V (.I 2 (N.c a)),AZ B B ?_,d.AI (AH.V _ _)⟩;have m:(e.V (.I 2 (N.c a))).Ap c 0=A (.n b):=Ay ((I6 (d.lv i) _).t ((d.M i).t k)) 0;show xx W9 206 [.S (N.c a),.p c 0] e=A (.b (!Hd a b),_);generalize Hd a b=j at g⊢;rw[st];cases j<;>simp only[QY,QV,g.H B,QB, *]
def lt{j:T}{m xa:F}{e:AE}(xb:e.I.l<=100)(U:k.M j=A (.I 2 [m,xa]))(X:Lv k j)(Y:Aw k m N.c 2 e.I)(W:C BJ):M4 (AH k) (pos 208) [.p j 0] W (λh=>.S (BJ.c h)) (λc=> !(BK c.B0 0 (e.I.l-1)&&Ao (((e.I[c.B0.n]?).g AO).Ak=0))):=λc _ d P=>by
 have s:AH d (d.V (.I 2 (BJ.c c))):=AH.V _ _
 have z:(d.V (.I 2 (BJ.c c))).M d.next=A (.I 2 (BJ.c c)):=by grind
 have r:∀(I:F->G->R),bl (.p d.next 0) (d.V (.I (Bq (F.I (.S (BJ.c c)))) (F.I (.S (BJ.c c))))) I=I (.p d.next 0) (d.V (.I 2 (BJ.c c))):=λ_=>B
 generalize d.V (.I 2 (BJ.c c))=g at s z r
 have p:=P.AI s
 have u:g.Ap d.next 0=A (.n c.B0):=Ay z 0
 have x:g.Ap j 0=A m:=Ay ((p.M X).t U) 0
 have M:=Y.ext p
 have J:=Cp M
 have y:=FA (a:=e.I.l) (b:=1) (by omega) (by omega)
 have o:=N9 c.B0 0 (e.I.l-1)
 refine⟨g,AZ B B ?_,p⟩
 show xx W9 208 [.S (BJ.c c),.p j 0] d=A (.b (!(BK c.B0 0 (e.I.l-1)&&Ao (((e.I[c.B0.n]?).g AO).Ak=0))),g)
 rw[sv]
 cases n:BK c.B0 0 (e.I.l-1)with
 |false=>rw[n]at o;simp only[↓r,↓Q,↓QV,↓QT,↓H u,↓H x,↓H J,↓H y,↓o.H B,QB]
 |true=>
  rw[n]at o;unfold BK at n;simp only[AdO,AdV]at n;let⟨h,q⟩:=Bb (b:=e.I) (a:=c.B0.n) (by omega)
  let⟨v,t⟩:=CD (f:=N.c) (w:=2) (λ_=>B) M q
  have V:AR 2 [m,.n c.B0]=A (.p v (c.B0.n*2)):=by have:=t.ia;rwa[show c.B0.n=c.B0 by omega]at this
  have Z:g.AL v (c.B0.n*2) 2=A (N.c h):=t.AL (f:=N.c) (λ_=>B) q;have E:=UB h;rw[q];show _=A (F.b (!(L&&Ao (h.Ak=0))),g);generalize Ao (h.Ak=0)=S at E⊢;cases S<;>simp only[↓r,↓Q,↓QV,↓QT,↓H u,↓H x,↓H J,↓H y,↓o.H B,QB,↓H V,↓H Z,↓E.H B]
def Dy(a:G)(c:BV){e:T}{d:G}(g:a.next=e)(f:a.V c=d)(b:F->G->R):bl (.p a.next 0) (a.V c) b=b (.p e 0) d:=by subst g f;rfl
def pF(b:AE)(xd:b.I.l<=100/\b.AV.l<=6000)(xe:Aw c e N.c 2 b.I)(xf:Aw c g BJ.c 2 b.AV)(a:K)(xa:0<=a/\a<=1000000000):∃E,W9 (pos 176) [.S [e,g],.n a] c=A (.b (KK a b),E)/\AH c E:=by
 have j:AH c (c.V (.I 2 [e,g])):=AH.V _ _
 have q:(c.V (.I 2 [e,g])).M _=A (.I 2 [e,g]):=HM _ _
 have n:Lv (c.V (.I 2 [e,g])) c.next:=P
 generalize Y:c.V _=d at j q n
 generalize xb:c.next=z at q n
 have T:∀(k:F->G->R),bl _ (c.V (.I (Bq (F.I (.S [e,g]))) (F.I (.S [e,g])))) k=k (.p z 0) d:=Dy c (.I 2 [e,g]) xb Y
 have h:AH d (d.V (.I 1 [.n a])):=AH.V _ _
 have s:(d.V (.I 1 [.n a])).M d.next=A (.I 1 [.n a]):=HM _ _
 have x:Lv (d.V (.I 1 [.n a])) d.next:=E9 _ _
 generalize Z:d.V (.I 1 [.n a])=o at h s x
 generalize xc:d.next=xh at s x
 have U:∀(k:F->G->R),bl (.p d.next 0) (d.V (.I (Bq (F.I (.n a))) (F.I (.n a)))) k=k (.p xh 0) o:=Dy d (.I 1 [.n a]) xc Z
 have r:=(h.M n).t q
 have v:=h.lv n
 have y:=(xe.ext j).ext h
 have S:=Cp y
 have I:o.Ap z 0=A e:=Ay r 0
 have M:¬(b.I.l:K)>100:=by omega
 let⟨p,l,i⟩:=M7 Uk SJ (IX.Cs (c:=N.c) (a:=2) (λ_=>B) y) (ls xa s x b.I) (by omega) o (λxg t=>⟨B,t⟩)
 rw[P_ (λxj=>Hd xj a)]at l
 let⟨W,u,V⟩:=M7 mb ry (IX.Cs (c:=BJ.c) (a:=2) (λ_=>B) (((xf.ext j).ext h).ext i)) (lt xd.1 ((i.M v).t r) (i.lv v) (y.ext i) b.AV) (by omega) p (λxg t=>⟨B,t⟩)
 rw[P_ (λm:BJ=>BK m.B0 0 (b.I.l-1)&&Ao (((b.I[m.B0.n]?).g AO).Ak=0))]at u
 unfold KK
 cases J:b.I.all (λxi=>Hd xi a)with
 |false=>rw[J]at l;refine⟨p,AZ B B ?_,j.AI (h.AI i)⟩;rw[aO.1];simp only[↓T,↓U,↓Q,↓QT,AdM,↓H I,↓H S,M,↓H l,QB]
 |true=>rw[J]at l;generalize(b.AV.all λm=>BK m.B0 0 (b.I.l-1)&&Ao (((b.I[m.B0.n]?).g AO).Ak=0))=X at u;refine⟨W,AZ B B ?_,j.AI (h.AI (i.AI V))⟩;rw[aO.1];cases X<;>simp only[↓T,↓U,↓Q,↓QT,AdM,↓H I,↓H S,M,↓H l,QB,aO.2,↓H (Ay ((i.M v).t r) 1:p.Ap z 1=A g),↓H u]
def b_:∀(d:C _)(a:D),BH (d.t a)<=BH d
 |[],a=>by simp
 |c::b,0=>AeA _
 |c::b,a+1=>by show c.AV.l+BH (b.t a)<=c.AV.l+BH b;have:=b_ b a;omega
structure Ff(b:C AE)(i:C Bz)(e:T)(d c:F)(f g:D->F)(a:G):Prop where
 M:CY a d f g b
 ot:Aw a c Bz.c 3 i
 gx:a.M e=A (.I 3 [d,.n (BH b:K),c])
 lx:Lv a e
 nx:¬B8 d f g b.l e
 tx:As c e
 tm:∀h,¬As c h->¬B8 d f g b.l h
def Ta(b c d a:F):Dg 0 [a] [b,c,d]=[a,c,d]/\Dg 1 [a] [b,c,d]=[b,a,d]/\Dg 2 [a] [b,c,d]=[b,c,a]:=⟨B,B,B⟩
structure TY(i:C AE)(h:G)(e:T)(c:D)(d:F)(f g:D->F)(b:G):Prop where
 M:CY b d f g (i.t c)
 gx:b.M e=A (.I 3 [d,.n (BH (i.t c):K),.sn])
 lx:Lv b e
 nx:¬B8 d f g c e
 BO:∀a,Lv h a->b.M a=h.M a/\Lv b a/\¬B8 d f g c a/\a≠e
def Aap{e:C AE}(xN:EW e)(x6:I1 e=0){Y:G}{J:F}{k j:D->F}(xl:CY Y J k j e){I g:T}(x3:Y.M I=A (.I 1 [J]))(yf:Lv Y I){c:D}{n:AE}(r:e[c]? =A n){l:F}{y S:D->F}{f:G}(h:TY e Y g c l y S f):∃s xZ yt xJ,jj W9 119 2 [.n e.l,J,.p I 0,.n c,.p g 0] f=jj W9 119 2 [.n e.l,J,.p I 0,.n (c+1:D),.p g 0] xJ/\TY e Y g (c+1) s xZ yt xJ:=by
 have xL:c<e.l:=by grind
 have yE:=xN.1;have x9:=xN.at r;have xX:=Cm xL;have x7:KK e.l n=L/\BH e<=6000:=by unfold I1 at x6;grind
 have xc:CY f J k j e:=xl.Ar λp xg _=>⟨(h.BO p xg).1,(h.BO p xg).2.1⟩;let⟨yA,yb,yr,_,_,_⟩:=xc.at xL
 have X:AH f (f.V (.I 2 [k c,j c])):=AH.V _ _;have xe:(f.V (.I 2 [k c,j c])).M f.next=A (.I 2 [k c,j c]):=P;have xq:Lv (f.V (.I 2 [k c,j c])) f.next:=E9 _ _;have xT:BU [k c,j c]=L:=by rw[DJ];simp[(Cr (xc.c c n r)).2,(Cr (xc.w c n r)).2]
 have xu:AX 2 (f.V (.I 2 [.sn,.sn])) [.p f.next 0,.S [k c,j c]]=A (AC,f.V (.I 2 [k c,j c])):=ET B xT;have yy:∀(xh:F->G->R),bl (.p f.next 0) (f.V (.I 2 [.sn,.sn])) xh=xh (.p f.next 0) (f.V (.I 2 [.sn,.sn])):=λ_=>B;have xR:¬Lv f f.next:=EX _;generalize xg:f.next=p at xe xq xu xR;generalize f.V (.I 2 [k c,j c])=w at X xe xq xu;have yw:g≠p:=λz=>xR (z▸h.lx);have yC:=Ya r;have yD:=b_ e (c+1);have yg:=Cp (xc.w c n r);have xD:=F2 (a:=(BH (e.t c))) (b:=n.AV.l) (by omega) (by omega);rw[show(BH (e.t c))+n.AV.l=((BH (e.t (c+1)):D):K) by omega]at xD;have xG:=(X.M h.lx).t h.gx;have yi:=X.lv h.lx;have xv:=Gx (d:=1) (a:=.n (BH (e.t (c+1)))) xG (by omega) (by omega) B B;rw[(Ta _ _ _ _).2.1]at xv;have yu:w.Ap g 1=A (.n (BH (e.t c))):=Ay xG 1;have yp:w.Ap p 1=A (j c):=Ay xe 1;have xr:∀d,d≠g->(w.set g (.I 3 [l,.n (BH (e.t (c+1))),.sn])).M d=w.M d:=λd m=>by rw[AN,Ad m]
 have Z:(w.set g (.I 3 [l,.n (BH (e.t (c+1))),.sn])).M g=A (.I 3 [l,.n (BH (e.t (c+1))),.sn]):=by rw[AN,Af B]
 have xj:∀d,Lv (w.set g (.I 3 [l,.n (BH (e.t (c+1))),.sn])) d=Lv w d:=P;generalize w.set g (.I 3 [l,.n (BH (e.t (c+1))),.sn])=q at xv xr Z xj;have xk:∀d,Lv f d->d≠g->q.M d=f.M d/\Lv q d:=λd m ya=>⟨(xr d ya).t (X.M m),by rw[xj];exact X.lv m⟩;have xf:=(xr p (λz=>yw z.s)).t xe;have xi:Lv q p:=by rw[xj];exact xq
 have xa:Lv q g:=by rw[xj];exact yi
 have xm:CY q J k j e:=xl.Ar λd m _=>by have:=h.BO d m;exact⟨(xk d this.2.1 this.2.2.2).1.t this.1,(xk d this.2.1 this.2.2.2).2⟩
 have yv:q.Ap g 1=A (.n (BH (e.t (c+1)))):=Ay Z 1;have xY:¬(BH (e.t (c+1)):K)>6000:=by omega
 have yo:q.Ap I 0=A J:=by have:=h.BO I yf;exact Ay ((xk I this.2.1 this.2.2.2).1.t (this.1.t x3)) 0
 have xP:=Cp xl.o;rw[Ad0]at xP;have ys:q.AL p 0 2=A [k c,j c]:=BB xf;let⟨xo,xO,t⟩:=pF n x9 (xm.c c n r) (xm.w c n r) (e.l:K) (by omega)
 rw[x7.1]at xO;have xz:=xm.ext t;have yx:xo.Ap g 0=A l:=Ay ((t.M xa).t Z) 0;have yq:xo.Ap p 0=A (k c):=Ay ((t.M xi).t xf) 0;let⟨x,xK,yc,xs,xb,x2⟩:=pG (xz.c c n r) (by omega)
 let⟨N,U,yd,xS,xy,xF⟩:=pH ((xz.ext xb).w c n r) (by omega)
 have xx:AH q U:=t.AI (xb.AI xy);have xH:=(xx.M xa).t Z;have xQ:=xx.lv xa;have x1:Cb [.sn,.sn] [(0,1),(1,1)] [x,N]=A (.S [x,N]):=by rcases xs with⟨rfl,_⟩|⟨_,_,rfl,_⟩<;>rcases xS with⟨rfl,_⟩|⟨_,_,rfl,_⟩<;>rfl
 have xM:(e.t c).l=c:=by grind
 have yk:=h.nx;rw[<-xM]at yk;have xE:∀d,Lv f d->As x d/\As N d:=λd m=>by
  have yG:Lv q d:=by grind
  exact⟨x2 d P,xF d P⟩
 have xn:∀{xw:F},(∀d,¬As xw d->B8 l y S (e.t c).l d)->Cn xw x/\Cn xw N:=λxh=>⟨Cn.of λd E=>(xE d (h.M.lv P)).1,Cn.of λd E=>(xE d (h.M.lv P)).2⟩;have xC:=xn (xw:=l) λd E=>.i E;let⟨s,V,ye,xd,x0,yz⟩:=(h.M.Ar P:CY U l y S (e.t c)).Es (xs.ext xy) xS (xF.Kt xs:Cn x N) xC.1 xC.2 (λW xp=>by have xA:=xn (xw:=y W) λd E=>.j ⟨W,xp,.i E⟩;have xB:=xn (xw:=S W) λd E=>.j ⟨W,xp,.j E⟩;exact⟨xA.1,xB.1,xA.2,xB.2⟩) (by omega)
 rw[xM,FL r]at xd;have ym:=E_.1 h.nx;have xt:=Gx (d:=0) (a:=s) ((x0.M xQ ym.1).t xH) (by omega) (by omega) (Cr xd.o).1 (Cr xd.o).2;rw[(Ta _ _ _ _).1]at xt;have yn:∀d,d≠g->(V.set g (.I 3 [s,.n (BH (e.t (c+1)):K),.sn])).M d=V.M d:=λd m=>by rw[AN,Ad m]
 have xI:(V.set g (.I 3 [s,.n (BH (e.t (c+1)):K),.sn])).M g=A (.I 3 [s,.n (BH (e.t (c+1)):K),.sn]):=by rw[AN,Af B]
 have yh:∀d,Lv (V.set g (.I 3 [s,.n (BH (e.t (c+1)):K),.sn])) d=Lv V d:=P;generalize V.set g (.I 3 [s,.n (BH (e.t (c+1)):K),.sn])=x5 at xt yn xI yh;have yj:∀d,Lv f d->Lv U d->¬B8 l y S c d->¬B8 s (BW y c x) (BW S c N) (c+1) d:=λd m yF x8=>by
  have x4:=E_.1 x8;refine E_.2 ⟨P,λW xp=> ?_⟩;by_cases z:W=c;.subst z;rw[Ec,Ec];grind
  .rw[CE z,CE z];grind
 have yl:=yj g h.lx xQ P;have yH:(e.t (c+1)).l=c+1:=by grind
 refine⟨s,BW y c x,BW S c N,x5,?_,?_⟩;.rw[Pj.2.2.2.1];simp only[↓Q,↓QT,AdM,xX,Pj.2.2.2.2.1,↓H yb,↓H yr,↓yy,xg,↓H xu,↓H yu,↓H yp,↓H yg,↓H xD,↓H xv,↓H yv,xY,↓H ys,↓H yo,↓H xP,↓H xO,QB,Pj.2.2.2.2.2.2,↓H yx,↓H yq,↓H yc,(Ij ((xb.M (t.lv xa)).t ((t.M xa).t Z)) B:Bv .Cq [.p g 0] xK l=L),↓Lq,↓H (Ay ((xb.M (t.lv xi)).t ((t.M xi).t xf)) 1:xK.Ap p 1=A (j c)),(Ij ((t.M xi).t xf) B:Bv .Cq [.p p 1] xo (j c)=L),↓H yd,(Ij xH B:Bv .Cq [.p g 0] U l=L),↓H x1,↓ye,↓H xt,Pj.2.2.2.2.2.1,↓H (Bh (a:=c) (by omega))]
 .exact{
  M:=xd.Ar P
  gx:=xI
  lx:=by grind
  nx:=yl
  BO:=λd m=>by
   let⟨yB,xU,xV,xW⟩:=h.BO d m
   have xh:=(P:∀d,Lv f d->d≠g->U.M d=f.M d/\Lv U d) d xU xW;have x4:=E_.1 xV;grind}
def fG{b:C AE}(V:EW b)(xk:I1 b=0){d:F}{xe xs:D->F}(T:CY c d xe xs b):∃e t q u y,W9 (pos 119) [.S [d]] c=A (.AB [.p e 0,.n 0],y)/\Ff b [] e t .sn q u y/\AH c y/\(∀g,Lv c g->g≠e/\¬B8 t q u b.l g):=by
 have xv:=V.1;have m:AH c (c.V (.I 1 [d])):=AH.V _ _;have v:(c.V (.I 1 [d])).M c.next=A (.I 1 [d]):=by grind
 have w:Lv (c.V (.I 1 [d])) c.next:=by grind
 generalize xi:c.V (.I 1 [d])=a at m v w;generalize xl:c.next=l at v w;have xt:∀(r:F->G->R),bl (.p c.next 0) (c.V (.I (Bq (F.I (.S [d]))) (F.I (.S [d])))) r=r (.p l 0) a:=Dy c (.I 1 [d]) xl xi;have xf:Cb [.sn,.n 0,.sn] [] []=A (.S [.sn,.n 0,.sn]):=B;have o:AH a (a.V (.I 3 [.sn,.n 0,.sn])):=AH.V _ _;have J:(a.V (.I 3 [.sn,.n 0,.sn])).M a.next=A (.I 3 [.sn,.n 0,.sn]):=by grind
 have P:Lv (a.V (.I 3 [.sn,.n 0,.sn])) a.next:=by grind
 have X:¬Lv a a.next:=EX _;generalize xj:a.V (.I 3 [.sn,.n 0,.sn])=p at o J P;generalize xn:a.next=e at J P X;have xu:∀(r:F->G->R),bl (.p a.next 0) (a.V (.I (Bq (F.I (.S [.sn,.n 0,.sn]))) (F.I (.S [.sn,.n 0,.sn])))) r=r (.p e 0) p:=Dy a (.I 3 [.sn,.n 0,.sn]) xn xj;have xg:=(o.M w).t v;have xa:=(T.ext m).ext o;have W:=Cp xa.o;rw[Ad0]at W;have xp:p.Ap l 0=A d:=Ay xg 0;have xb:¬(b.l:K)>400:=by omega
 have xw:l≠e:=by grind
 have Z:TY b a e 0 .sn (λ_=>.sn) (λ_=>.sn) p:={
  M:=CY.nil _ _ _,gx:=J,lx:=P,nx:=E_.2 ⟨Cg _,λk N=>by grind⟩
  BO:=λg j=>⟨o.M j,o.lv j,E_.2 ⟨Cg _,λk N=>by grind⟩,λz=>X (z▸j)⟩}
 let⟨⟨t,q,u⟩,i,E,f⟩:=Dh (h:=b.l) (f:=λk (_:F×(D->F)×(D->F)) i=>jj W9 119 2 [.n (b.l:K),d,.p l 0,.n (k:K),.p e 0] i) (g:=λk x i=>TY b a e k x.1 x.2.1 x.2.2 i)
  (λk x i N f=>by
   let⟨xx,xm⟩:=Bb N
   let⟨xq,xd,xr,xh,z,Y⟩:=Aap V xk (T.ext m) v w xm f
   exact⟨(xq,xd,xr),xh,z,Y⟩)
  (b:=(.sn,λ_=>.sn,λ_=>.sn)) (a:=p) Z
 have E:jj W9 119 2 [.n (b.l:K),d,.p l 0,.n 0,.p e 0] p=jj W9 119 2 [.n (b.l:K),d,.p l 0,.n (b.l:K),.p e 0] i:=E;have f:TY b a e b.l t q u i:=f;have S:=f.M;have U:=f.gx;rw[Gz]at S U;have xc:=CA b.l;refine⟨e,t,q,u,i,AZ B B ?_,{M:=S,ot:=Aw.sn i,gx:=U,lx:=f.lx,nx:=f.nx,tx:=Cg _,tm:=λg xo=>BF (Cg g) xo},?_,?_⟩;.rw[Pj.1];simp only[↓xt,↓H xf,↓xu,↓Q,↓QT,AdM,↓H xp,↓H W,xb,Pj.2.1];rw[E,Pj.2.2.2.1];simp only[↓Q,↓QT,AdM,xc,Pj.2.2.1]
 .intro g j;have:=f.BO g (m.lv j);grind
 .intro g j;have:=f.BO g (m.lv j);grind
