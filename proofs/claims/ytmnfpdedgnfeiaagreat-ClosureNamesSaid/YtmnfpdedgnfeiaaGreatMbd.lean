/- Part of the proof. -/
import Derived.Test.YtmnfpdedgnfeiaaGreatMbc
set_option linter.all false
noncomputable section
open Option renaming some->A,none->O,getD->Option.g,bind->Option.b
open _root_ renaming rfl->B,List->C,Nat->D,Int->K,if_neg->Ad,if_pos->Af,Option->Aj,Bool->Ak,cond->An,absurd->A_,decide_eq_false->Ba,decide_eq_true->Be
open Bool renaming true->L,false->Ac
open Decidable renaming decide->Au
open Nat renaming beq->Bb,ble->Co,le_refl->C6
open List renaming length->List.l,map->List.m,take->List.t,drop->List.d,flatMap->List.f
open Go.IntKind renaming i64->Go.IntKind.n
open Array renaming toList->Array.l
open Eq renaming trans->Eq.t,symm->Eq.s
open Or renaming inl->Or.i,inr->Or.j
open Int renaming toNat->Int.n
namespace Go.Proofs.YtmnfpdedgnfeiaaGreat
open Go.Fg
variable{a:G}{i:Aa}
def AdT(f:C AG)(I:Gn f){e:D}{w:AG}(F:f[e]? =A w)(xn xe k l:K){u g o h:Aa}(W:a.N u=A (.I 1 (B3 f)))(z:a.N g=A (.I 2 (M.c ⟨xn,e⟩)))(X:a.N o=A (.I 2 (M.c ⟨xe,k⟩)))(Y:a.N h=A (.I 1 [.sn]))(Z:a.N i=A (.I 2 [.i .u8 0,.n 0]))(xA:Lv a u)(J:Lv a g)(xi:Lv a o)(xj:Lv a h)(xk:Lv a i)(xl:h≠i):∃c m p E,jj W9 146 1 [.p u 0,.p g 0,.p o 0,.n l,.p h 0,.p i 0] a=A (.AC [.S [c],.S (M.c AK),.n 0],E)/\Dn E c m p (f.set e ⟨w.I,w.AV++[⟨k,l⟩]⟩):=by
 have xu:=(I.at F).2;let⟨c,m,p,d,xp,s,xo,xr⟩:=cc f I a
 have x:Ct [c]=L:=by rw[EC];simp[(CS s.o).2]
 have S:A1 1 (d.V (.I 1 [.sn])) [.p d.next 0,.S [c]]=A (Ax,d.V (.I 1 [c])):=FL B x;generalize xb:d.V (.I 1 [c])=j at S;have U:AR d j:=by rw[<-xb];exact AR.V _ _
 have n:j.N d.next=A (.I 1 [c]):=by grind
 have N:Lv j d.next:=by grind
 generalize xd:d.next=v at S n N;have xm:¬Lv d v:=by rw[<-xd];exact FO _
 let⟨T,y,q,r,xw,xv,xB,xC,V,xh⟩:=(s.ext U).fp F (by omega) ⟨k,l⟩
 let⟨xf,xx,xg,xy,xz⟩:=xh v N (λxa=>xm (s.lv xa))
 have R:∀b,Lv a b->Lv j b/\j.N b=a.N b:=by grind
 have t:∀b,Lv a b->q.N b=a.N b/\r.N b=a.N b/\Lv r b/\¬Ck c m (Cf p e T) f.l b:=by grind
 have xq:BE [(.n 0),(.n 0)] [(0,1),(1,1)] [.n k,.n l]=A (.S (BU.c ⟨k,l⟩)):=B;let⟨xD,xE,xF,xG⟩:=TN ((t h xj).2.1.t Y) ((t i xk).2.1.t Z) xl B x AK
 have xs:Bt 1 [.p y (e*2)]=A (.p y (e*2+1)):=by rw[F6]
 refine⟨c,m,Cf p e T,(r.set h (.I 1 [c])).set i (.I 2 (M.c AK)),?_,V.Av λb xt xc=>⟨?_,by grind⟩⟩;.rw[Ld.2.2.2];simp only[Q,H (B2 W),H (AJ n 0),H (AJ ((R g J).2.t z) 1),H (AJ ((R o xi).2.t X) 1),(Jd ((t g J).1.t z) B:BV .Dg [.p g 1] q (.n e)=L),(Jd (xf.t n) B:BV .Dg [.p v 0] q c=L),H (B2 (xg.t n)),QE,ZR, *];rfl
 .rw[Aiv]at xc;rw[AY,Ad P,AY,Ad P]
def FI(b:C AG)(c a:M):M:=match G_ b c.n with|some d=>(d.I[a.n.n]?).g AK|none=>AK
def Jk(a:C AG)(b:K)(c:AG->AG):C AG:=match G_ a b with|some d=>a.set b.n (c d)|none=>a
def Ds(a:C AG)(b c:M)(e:K):C AG×M×K:=
 if b.Ai=5 then(a,b,0)
 else if c.Ai=5 then(a,c,0)
 else if b.Ai=3 then(a,D2 3,0)
 else if b.Ai≠4\/c.Ai≠1 then(a,D2 5,0)
 else if Dp a b c=Ac then(a,D2 3,0)
 else if(FI a b c).Ai≠0 then(a,FI a b c,0)
 else if 6000<=BZ a then(a,AK,5)
 else(Jk a b.n (λd=>⟨d.I,d.AV++[⟨c.n,e⟩]⟩),AK,0)
def O1{d:C AG}{a c:M}(r:Ll d a)(g:Dp d a c=L):∃(e m:D)(b:AG)(f:M),a.n=e/\d[e]? =A b/\c.n=m/\b.I[m]? =A f/\FI d a c=f/\a.Ai=4/\c.Ai=1/\G_ d a.n=A b:=by
 unfold Dp at g;simp only[Aie,Ain]at g;let⟨j,n,h⟩:=g
 let⟨b,k⟩:=r j
 let⟨e,o,q⟩:=OG k
 have p:Qf d a.n=b.I.l:=by unfold Qf;grind
 rw[p]at h;unfold BY at h;simp only[Aie,Ain]at h;let⟨f,s⟩:=Bo (b:=b.I) (a:=c.n.n) (by omega)
 refine⟨e,c.n.n,b,f,o,q,by omega,s,?_,j,n,k⟩;unfold FI;grind
def uI(a:C AG)(W:Gn a)(c e:M)(h:K)(xI:Ll a c):A2 146 [.S (B3 a),.S (M.c c),.S (M.c e),.n h] (.AC [.S (B3 (Ds a c e h).1),.S (M.c (Ds a c e h).2.1),.n (Ds a c e h).2.2]):=by
 have xU:=W.1;have j:G.Az.next=.h:=B;have k:(G.Az.V (.I 1 (B3 a))).next=.o .h:=B
 have m:((G.Az.V (.I 1 (B3 a))).V (.I 2 (M.c c))).next=.i .h:=B
 have n:(((G.Az.V (.I 1 (B3 a))).V (.I 2 (M.c c))).V (.I 2 (M.c e))).next=.o (.o .h):=B
 have o:((((G.Az.V (.I 1 (B3 a))).V (.I 2 (M.c c))).V (.I 2 (M.c e))).V (.I 1 [.sn])).next=.i (.o .h):=B
 generalize i:((((G.Az.V (.I 1 (B3 a))).V (.I 2 (M.c c))).V (.I 2 (M.c e))).V (.I 1 [.sn])).V (.I 2 [.i .u8 0,.n 0])=b;have I:b.N .h=A (.I 1 (B3 a)):=by grind
 have x:b.N (.o .h)=A (.I 2 (M.c c)):=by grind
 have U:b.N (.i .h)=A (.I 2 (M.c e)):=by grind
 have xh:b.N (.o (.o .h))=A (.I 1 [.sn]):=by grind
 have xi:b.N (.i (.o .h))=A (.I 2 [.i .u8 0,.n 0]):=by grind
 have xn:Lv b .h:=by grind
 have xR:Lv b (.o .h):=by grind
 have xS:Lv b (.i .h):=by grind
 have xo:Lv b (.o (.o .h)):=by grind
 have xp:Lv b (.i (.o .h)):=by grind
 have X:(Aa.o (.o .h))≠.i (.o .h):=by grind
 have w:=λh=>TN xh xi X (a:=B3 a) B B h;have t:∀(N:M)(z:K),(∃V,xx W9 146 [.S (B3 a),.S (M.c c),.S (M.c e),.n h] G.Az=A (.AC [.S (B3 a),.S (M.c N),.n z],V))->A2 146 [.S (B3 a),.S (M.c c),.S (M.c e),.n h] (.AC [.S (B3 a),.S (M.c N),.n z]):=λN z J=>by
  let⟨V,J⟩:=J
  exact FN B B J B
 have xa:b.AA (.o .h) 1=A (.n c.n):=AJ x 1;have xc:b.AA (.i .h) 0=A (.i .u8 e.Ai):=AJ U 0;have xd:b.AA (.i .h) 1=A (.n e.n):=AJ U 1;have xb:b.AA .h 0=A (Z AG.c a):=AJ I 0;have xr:b.AU .h 0 1=A (B3 a):=B2 I;have xs:b.AU (.o .h) 0 2=A (M.c c):=B2 x;have xq:b.AU (.i .h) 0 2=A (M.c e):=B2 U;have xW:BV (.ld 1) [.p .h 0] b (.S (B3 a))=L:=M2 I;have xX:BV (.ld 2) [.p (.o .h) 0] (b.set (.o (.o .h)) (.I 1 (B3 a))) (.S (M.c c))=L:=M2 (by rw[AY,Ad (by grind)];grind);have xV:BV (.ld 2) [.p (.i .h) 0] (b.set (.o (.o .h)) (.I 1 (B3 a))) (.S (M.c e))=L:=M2 (by rw[AY,Ad (by grind)];grind);have xz:=N3 3;have xA:=N3 5;have y:=ib a W c e xI;unfold Ds;by_cases xB:c.Ai=5
 .rw[Af xB];refine t c 0 ?_;let⟨p,q,r,s⟩:=w c
  rw[Ld.1];simp only[↓Jq,↓Q,↓QD,j,k,m,n,o];rw[i];simp only[QY, *];grind
 rw[Ad xB];by_cases xC:e.Ai=5
 .rw[Af xC];refine t e 0 ?_;let⟨p,q,r,s⟩:=w e
  rw[Ld.1];simp only[↓Jq,↓Q,↓QD,j,k,m,n,o];rw[i];simp only[QY, *];grind
 rw[Ad xC];by_cases xD:c.Ai=3
 .rw[Af xD];refine t (D2 3) 0 ?_;let⟨p,q,r,s⟩:=w (D2 3)
  rw[Ld.1];simp only[↓Jq,↓Q,↓QD,j,k,m,n,o];rw[i];simp only[QY,Int.reduceEq,xz.H B, *];grind
 rw[Ad xD];by_cases xe:c.Ai=4
 .by_cases xf:e.Ai=1
  .rw[Ad (by grind)]
   cases xg:Dp a c e with
   |false=>
    rw[xg]at y;rw[Af B];refine t (D2 3) 0 ?_;let⟨p,q,r,s⟩:=w (D2 3)
    rw[Ld.1];simp only[↓Jq,↓Q,↓QD,j,k,m,n,o];rw[i];simp only[QY,Int.reduceEq,y.H B,QB,xz.H B, *];grind
   |true=>
    rw[xg]at y;rw[Ad (by grind)];let⟨xy,xm,v,g,xj,xH,xM,xQ,xL,_,_,xP⟩:=O1 xI xg
    have xO:(Jk a c.n λv=>⟨v.I,v.AV++[⟨e.n,h⟩]⟩)=a.set xy ⟨v.I,v.AV++[⟨e.n,h⟩]⟩:=by unfold Jk;rw[xP];simp only[];rw[xj];rfl
    rw[xL,xO];have xl:AZ 2 [Z M.c v.I,.n e.n]=A (.pi (M.c g)):=by rw[xM];exact Kz xQ
    have xk:AZ 2 [Z AG.c a,.n c.n]=A (.pi (AG.c v)):=by rw[xj];exact S4 xH
    have f:AR b (b.V (.I 2 (M.c g))):=AR.V _ _;generalize xK:b.V (.I 2 (M.c g))=u at f;have xG:u.N b.next=A (.I 2 (M.c g)):=by grind
    have xY:Lv u b.next:=by grind
    have xv:∀(xm:F->G->R),bl (.p b.next 0) (b.V (.I 2 [.i .u8 0,.n 0])) xm=xm (.p b.next 0) (b.V (.I 2 [.i .u8 0,.n 0])):=λ_=>B;have xt:A1 2 (b.V (.I 2 [.i .u8 0,.n 0])) [.p b.next 0,.S (M.c g)]=A (Ax,u):=by rw[<-xK];exact FL B B
    have xu:u.AA b.next 0=A (.i .u8 g.Ai):=AJ xG 0;have Y:u.AU .h 0 1=A (B3 a):=B2 ((f.N xn).t I);have E:=FW .u8 g.Ai 0;by_cases S:g.Ai=0
    .rw[Be S]at E;rw[Ad (λJ=>J S)];have xF:=s9 a W;have T:=K7 .n (BZ a) 6000;by_cases xE:6000<=BZ a
     .rw[Be (by omega)]at T;rw[Af xE];refine t AK 5 ?_;let⟨p,q,r,s⟩:=TN ((f.N xo).t xh) ((f.N xp).t xi) X (a:=B3 a) B B AK
      rw[Ld.1];simp only[↓Jq,↓Q,↓QD,j,k,m,n,o];rw[i];simp only[QY,Int.reduceEq,x,xc,xe,xf,xr,xs,xq,y.H B,QB,Ld.2.1,xb,xa,xk,xd,xl,xv,xt,xu,E,Ld.2.2.1,Y,xF.H B,T,QE,p,q,r,s];grind
     .rw[Ba (by omega)]at T;rw[Ad xE];have xw:=(f.N xR).t x;have xN:c=⟨c.Ai,xy⟩:=by rw[<-xj]
      rw[xN]at xw;let⟨N,xT,xZ,V,z,xJ⟩:=AdT a W xH c.Ai e.Ai e.n h ((f.N xn).t I) xw ((f.N xS).t U) P P (f.lv xn) P P (f.lv xo) (f.lv xp) X
      refine Fz.Qr B B (f:=.AC [.S [N],.S (M.c AK),.n 0]) (d:=V) (c:=5) ?_ (h7 xJ.fz _ _) (by omega);rw[Ld.1];simp only[↓Jq,↓Q,↓QD,j,k,m,n,o];rw[i];simp only[QY,Int.reduceEq,x,xc,xe,xf,xr,xs,xq,y.H B,QB,Ld.2.1,xb,xa,xk,xd,xl,xv,xt,xu,E,Ld.2.2.1,Y,xF.H B,T];grind
    .rw[Ba S]at E;rw[Af S];refine t g 0 ?_;let⟨p,q,r,s⟩:=TN ((f.N xo).t xh) ((f.N xp).t xi) X (a:=B3 a) B B g
     rw[Ld.1];simp only[↓Jq,↓Q,↓QD,j,k,m,n,o];rw[i];simp only[Q,QD,QT,Aic,Int.reduceEq,H x,H xc,xe,xf,H xr,H xs,H xq,y.H B,QB,Ld.2.1,H xb,H xa,H xk,H xd,H xl,xv,H xt,H xu,H E,H Y,H (B2 xG:u.AU b.next 0 2=A (M.c g)),H p,(M2 (by rw[AY,Ad (λz=>by grind)];grind):BV (.ld 2) [.p b.next 0] (u.set (.o (.o .h)) (.I 1 (B3 a))) (.S (M.c g))=L),MP,H q,H r,H s]
     grind
  .rw[Af Om];refine t (D2 5) 0 ?_;let⟨p,q,r,s⟩:=w (D2 5)
   rw[Ld.1];simp only[↓Jq,↓Q,↓QD,j,k,m,n,o];rw[i];simp only[QY,Int.reduceEq,xA.H B, *];grind
 .rw[Af Om];refine t (D2 5) 0 ?_;let⟨p,q,r,s⟩:=w (D2 5)
  rw[Ld.1];simp only[↓Jq,↓Q,↓QD,j,k,m,n,o];rw[i];simp only[QY,Int.reduceEq,xA.H B, *];grind
variable{c:G}
def C4{g:Type}{b:F}{d:g->C _}{f:D}{a:C _}(e:AF c b d f a):Ea [b]=A (.n a.l):=by rcases e with⟨rfl,rfl⟩|⟨h,i,rfl,_⟩<;>rfl
def Fg(a:K)(b:C BU):C BU:=b.filter λc=> !Au (c.Cy=a)
def Fj(b:K)(c:M)(d:C BU):C BM:=(d.filter λa=>Au (a.Cy=b)).m λa=>⟨a.Cq,c⟩
def ju(a:K)(c:C _)(b:BU):Fg a (c++[b])=Fg a c++(if b.Cy=a then[]else[b]):=by unfold Fg;grind
def mW(a:K)(b:M)(d:C _)(c:BU):Fj a b (d++[c])=Fj a b d++(if c.Cy=a then[⟨c.Cq,b⟩]else[]):=by unfold Fj;grind
def jt(b:K)(a:C _):(Fg b a).l<=a.l:=List.length_filter_le _ _
def mT(b:K)(c:M)(a:C _):(Fj b c a).l<=a.l:=by unfold Fj;grind
structure av(b:G)(g:K)(i:M)(h:C BU)(f:D)(a:F×F)(c:G):Prop where
 ok:AF c a.1 BU.c 2 (Fg g (h.t f))
 ot:AF c a.2 BM.c 3 (Fj g i (h.t f))
 d:CF a.1 a.2
 e:AR b c
 fk:EV b a.1
 ft:EV b a.2
variable{xa xb:Aa}{xe:D->F}
def AeC{Z:C AG}{k n:D}{h:AG}(T:Z[k]? =A h)(xr:h.AV.l<=6000)(xh:K)(m:M){N P J:Aa}{p:G}{xc:F}{xm:D->F}(xd:Dn p xc xe xm Z)(xs:AZ 2 [xc,.n k]=A (.p J (k*2)))(xf:p.N N=A (.I 2 (M.c ⟨xh,n⟩)))(xg:p.N P=A (.I 2 (M.c m)))(xj:Lv p N)(xk:Lv p P){g:D}(Y:g<h.AV.l){I:F×F}{S:G}(a:av p n m h.AV g I S):∃V r,jj W9 184 2 [.p N 0,.p P 0,.n g,.p J (k*2),I.1,.p xb 0,I.2,.p xa 0] S=jj W9 184 2 [.p N 0,.p P 0,.n (g+1:D),.p J (k*2),V.1,.p xb 0,V.2,.p xa 0] r/\av p n m h.AV (g+1) V r:=by
 let⟨j,E⟩:=Bo Y
 have Q:=xd.ext a.e;let⟨R,xt,_,_,xx,_⟩:=Q.at (Aid.1 T).1
 have:R=J:=by grind
 subst this;let⟨u,t⟩:=Dm (w:=2) (λ_=>B) (Q.w k h T) E
 have xp:Bt 1 [.p R (k*2)]=A (.p R (k*2+1)):=B;have xq:Bt 0 [.p u (g*2)]=A (.p u (g*2)):=B;have xu:=C4 (Q.w k h T);have xn:=Dx Y;have xv:AW S [.p u (g*2)]=A (.n j.Cy):=t.AA (f:=BU.c) (λ_=>B) E (b:=0) (by omega);have xw:=AJ ((a.e.N xj).t xf) 1;have xo:BE [(.n 0),(.i .u8 0),(.n 0)] [(0,1),(1,2)] [.n j.Cq,.S (M.c m)]=A (.S (BM.c ⟨j.Cq,m⟩)):=B;have v:=ju n (h.AV.t g) j;have z:=mW n m (h.AV.t g) j;rw[Gv E]at v z;by_cases X:j.Cy=n
 .rw[Af X]at v z;rw[Aiy]at v;have U:=mT n m (h.AV.t g);rw[AiH]at U;let⟨W,r,xi,xl,q,s⟩:=GS (w:=3) (b:=⟨j.Cq,m⟩) (o:=.S (BM.c ⟨j.Cq,m⟩)) (h:=24) (λ_=>B) B B a.ot (EI (by omega))
  refine⟨(I.1,W),r,?_,?_⟩;.rw[LS.2.2.2.2.1];simp only[QY,LS.2.2.2.2.2.1,H t.ia,H (B:Bt 1 [.p u (g*2)]=A (.p u (g*2+1))),H (t.AA (f:=BU.c) (λ_=>B) E (b:=1) (by omega)),H (B2 ((a.e.N xk).t xg)),LS.2.2.2.2.2.2,H (BF (a:=g) (by omega)), *]
  .exact{
   ok:=by rw[v];exact a.ok.Av λc b l=>q c b (a.d.r l)
   ot:=by grind
   d:=CF.of λc l=>s c (a.ok.Dh l) (a.d.r l)
   e:=λc b=>⟨(q.N (a.e.lv b) (a.ft c b)).t (a.e.N b),q.lv (a.e.lv b) (a.ft c b)⟩
   fk:=a.fk
   ft:=λc b=>s c (a.e.lv b) (a.ft c b)}
 .rw[Ad X]at v z;rw[Aiy]at z;have U:=jt n (h.AV.t g);rw[AiH]at U;let⟨W,r,xi,xl,q,s⟩:=GS (w:=2) (b:=j) (o:=.S (BU.c j)) (h:=16) (λ_=>B) B B a.ok (EI (by omega))
  refine⟨(W,I.2),r,?_,?_⟩;.rw[LS.2.2.2.2.1];simp only[QY,LS.2.2.2.2.2.1,H t.ia,H (t.AU (f:=BU.c) (λ_=>B) E),LS.2.2.2.2.2.2,H (BF (a:=g) (by omega)), *]
  .exact{
   ok:=by grind
   ot:=by rw[z];exact a.ot.Av λc b l=>q c b (a.d.l l)
   d:=(CF.of λc l=>s c (a.ot.Dh l) (a.d.l l)).symm
   e:=λc b=>⟨(q.N (a.e.lv b) (a.fk c b)).t (a.e.N b),q.lv (a.e.lv b) (a.fk c b)⟩
   fk:=λc b=>s c (a.e.lv b) (a.fk c b)
   ft:=a.ft}
def AdP(k:C AG)(xp:Gn k){f o:D}{g:AG}{x4:M}(W:k[f]? =A g)(xQ:g.I[o]? =A x4)(x1 xu:K)(p:M){y t h:Aa}(xJ:c.N xa=A (.I 1 (B3 k)))(xK:c.N xb=A (.I 2 (M.c ⟨x1,f⟩)))(xL:c.N y=A (.I 2 (M.c ⟨xu,o⟩)))(xM:c.N t=A (.I 2 (M.c p)))(xN:c.N h=A (.I 1 [.sn]))(x9:Lv c xa)(xS:Lv c xb)(xT:Lv c y)(xy:Lv c t)(xz:Lv c h):∃b r u xD V,jj W9 184 5 [.p xa 0,.p xb 0,.p y 0,.p t 0,.p h 0] c=A (.AC [.S [b],xD,.n 0],V)/\Dn V b r u (k.set f ⟨g.I.set o p,Fg o g.AV⟩)/\AF V xD BM.c 3 (Fj o p g.AV):=by
 have xn:=(Aid.1 W).1;let⟨b,r,u,l,xH,S,xE,xk⟩:=cc k xp c
 have xj:Ct [b]=L:=by rw[EC];simp[(CS S.o).2]
 have xe:A1 1 (l.V (.I 1 [.sn])) [.p l.next 0,.S [b]]=A (Ax,l.V (.I 1 [b])):=FL B xj;generalize xO:l.V (.I 1 [b])=q at xe;have xg:AR l q:=by rw[<-xO];exact AR.V _ _
 have U:q.N l.next=A (.I 1 [b]):=by grind
 have Z:Lv q l.next:=by grind
 generalize xr:l.next=z at xe U Z;have xZ:¬Lv l z:=by rw[<-xr];exact FO _
 have xh:=S.ext xg;have xv:=λw=>xZ (S.lv w);let⟨xG,i,x2,yf,yg,x3,v,ya,xV,xY⟩:=xh.EY W xQ p
 have x8:Ck b r u k.l xG:=.j ⟨f,xn,.i xY⟩;have X:(k.set f ⟨g.I.set o p,g.AV⟩)[f]? =A ⟨g.I.set o p,g.AV⟩:=by grind
 let⟨N,xt,_,x0,yb,xF⟩:=xh.at xn
 have E:=xE.AQ xg;have xw:∀a,Lv q a->¬Ck b r u k.l a->i.N a=q.N a/\Lv i a:=by grind
 have xR:∀a,Lv c a->i.N a=c.N a/\Lv i a:=by grind
 let⟨x5,x6⟩:=xw z Z xv
 let⟨⟨xx,xf⟩,w,T,j⟩:=Ez (f:=λxs (xc:F×F) w=>jj W9 184 2 [.p y 0,.p t 0,.n xs,.p N (f*2),xc.1,.p z 0,xc.2,.p h 0] w)
  (λxs xc w xP j=>AeC X (xp.at W).2 xu p v xt P P P (xR t xy).2 xP j) ({
  ok:=AF.sn i,ot:=AF.sn i,d:=LG _,e:=λa m=>⟨B,m⟩
  fk:=λa _=>CM a,ft:=λa _=>CM a}:av i o p g.AV 0 (.sn,.sn) i)
 have T:jj W9 184 2 [.p y 0,.p t 0,.n 0,.p N (f*2),.sn,.p z 0,.sn,.p h 0] i=jj W9 184 2 [.p y 0,.p t 0,.n g.AV.l,.p N (f*2),xx,.p z 0,xf,.p h 0] w:=T;have xA:=j.ok;have xB:=j.ot;have Q:=j.fk;have xl:=j.ft;rw[HV]at xA xB;let⟨I,R,yc,_,_,yd,ye,xi,xC,xW,xX⟩:=v.ev j.e.Yq X xA (Q.LF v.o) (λx J=>by
  let⟨xd,Y⟩:=Bo J
  exact Q.LF (v.c x xd Y)) (λx J s=>by
  let⟨xd,Y⟩:=Bo J
  exact Q.LF (v.w x xd Y))
 have:I=N:=by grind
 subst this;rw[Ajn]at xi;have xU:Lv i I:=by rw[xV];exact xF.lv
 have x7:Ck b r u k.l I:=.i xX;have xq:∀a,Lv q a->¬Ck b r u k.l a->R.N a=q.N a/\Lv R a:=λa m s=>by have:=xw a m s;exact⟨(xC a P).t ((j.e.N P).t this.1),by rw[xW];exact j.e.lv this.2⟩
 refine⟨b,r,Cf u f xx,xf,R.set h (.I 1 [b]),?_,xi.Av λa m xo=>⟨?_,by grind⟩,xB.Av λa m s=>⟨?_,?_⟩⟩;.have xI:Bt 0 [.p I (f*2)]=A (.p I (f*2)):=B;rw[LS.2.2.1];simp only[QY,B2 xJ,xH,xr,xe,AJ U 0,AJ ((E.N xS).t xK) 1,xt,xI,x0,AJ ((E.N xT).t xL) 1,B2 ((E.N xy).t xM),x2,x3];rw[T,LS.2.2.2.2.1];simp only[QY,H B,H (C4 ((v.ext j.e).w f _ X)),(Dz g.AV.l),LS.2.2.2.1,H (B2 ((xq z Z xv).1.t U)),H (Ho (((λa m=>(xq a (E.lv m) (xk a m)).1.t (E.N m)) h xz).t xN) B xj),H (B2 (by rw[AY,Af B]):(R.set h (.I 1 [b])).AU h 0 1=A [b]), *]
 .rw[AY,Ad];intro n;subst n;rw[Aiv]at xo;have xm:=FC.1 (xk _ xz);refine FC.2 ⟨xm.1,λx J=>⟨(xm.2 x J).1,?_⟩⟩ xo;by_cases n:x=f;.subst n;rw[EH];exact Q _ P
  .rw[CQ n];grind
 .rw[AY,Ad ((λa s n=>by subst n;exact s (xl a P):∀a,¬AE xf a->a≠h) a s),xC a (λn=>by subst n;exact s (xl _ xU))]
 grind
def CD(a:C AG)(c b e:M):C AG×C BM×K:=
 if Dp a c b=Ac then(a,[],0)
 else if(FI a c b).Ai≠0 then(a,[],6)
 else(Jk a c.n (λd=>⟨d.I.set b.n.n e,Fg b.n d.AV⟩),(match G_ a c.n with|some d=>Fj b.n e d.AV|none=>[]),0)
variable{e h:F}
def sR{d:C AG}{g:C BM}(i:Fz 3 a h (Z AG.c d))(j:AF a e BM.c 3 g)(b:K):Fz 5 a (.AC [.S [h],e,.n b]) (.AC [.S (B3 d),Z BM.c g,.n b]):=
 Fz.AC (CI.cons (Fz.S (CI.cons i (CI.nil _ _))) (CI.cons ((Fz.CC (b:=BM.c) (h:=3) (λ_=>B) (λ_=>B) j).up (by omega)) (CI.cons ((Fz.im (c:=a) (a:=.n b) B).up (by omega)) (CI.nil _ _))))
def s8(a:C AG)(S:Gn a)(b c f:M)(U:Ll a b):A2 184 [.S (B3 a),.S (M.c b),.S (M.c c),.S (M.c f)] (.AC [.S (B3 (CD a b c f).1),Z BM.c (CD a b c f).2.1,.n (CD a b c f).2.2]):=by
 have v:G.Az.next=.h:=B
 have w:(G.Az.V (.I 1 (B3 a))).next=.o .h:=B
 have x:((G.Az.V (.I 1 (B3 a))).V (.I 2 (M.c b))).next=.i .h:=B
 have y:(((G.Az.V (.I 1 (B3 a))).V (.I 2 (M.c b))).V (.I 2 (M.c c))).next=.o (.o .h):=B
 have z:((((G.Az.V (.I 1 (B3 a))).V (.I 2 (M.c b))).V (.I 2 (M.c c))).V (.I 2 (M.c f))).next=.i (.o .h):=B
 generalize s:((((G.Az.V (.I 1 (B3 a))).V (.I 2 (M.c b))).V (.I 2 (M.c c))).V (.I 2 (M.c f))).V (.I 1 [.sn])=e
 have p:e.N .h=A (.I 1 (B3 a)):=by grind
 have q:e.N (.o .h)=A (.I 2 (M.c b)):=by grind
 have r:e.N (.i .h)=A (.I 2 (M.c c)):=by grind
 have xf:e.N (.o (.o .h))=A (.I 2 (M.c f)):=by grind
 have R:e.N (.i (.o .h))=A (.I 1 [.sn]):=by grind
 have xk:Lv e .h:=by grind
 have xl:Lv e (.o .h):=by grind
 have xm:Lv e (.i .h):=by grind
 have xn:Lv e (.o (.o .h)):=by grind
 have xo:Lv e (.i (.o .h)):=by grind
 have xb:e.AU .h 0 1=A (B3 a):=B2 p
 have xc:e.AU (.o .h) 0 2=A (M.c b):=B2 q
 have xa:e.AU (.i .h) 0 2=A (M.c c):=B2 r
 have J:e.AA (.o .h) 1=A (.n b.n):=AJ q 1
 have P:e.AA (.i .h) 1=A (.n c.n):=AJ r 1
 have N:e.AA .h 0=A (Z AG.c a):=AJ p 0
 have xs:A1 1 e [.p (.i (.o .h)) 0,.S (B3 a)]=A (Ax,e.set (.i (.o .h)) (.I 1 (B3 a))):=Ho R B B
 have xt:(e.set (.i (.o .h)) (.I 1 (B3 a))).AU (.i (.o .h)) 0 1=A (B3 a):=B2 (by rw[AY,Af B])
 have xd:∀(k:K),(∃m,xx W9 184 [.S (B3 a),.S (M.c b),.S (M.c c),.S (M.c f)] G.Az=A (.AC [.S (B3 a),.sn,.n k],m))->A2 184 [.S (B3 a),.S (M.c b),.S (M.c c),.S (M.c f)] (.AC [.S (B3 a),Z BM.c [],.n k]):=λk i=>by
  let⟨m,i⟩:=i
  exact FN B B i B
 have h:=ib a S b c U
 unfold CD
 cases o:Dp a b c with
 |false=>rw[o]at h;rw[Af B];refine xd 0 ?_;rw[LS.1];simp only[↓Jq,↓Q,↓QD,v,w,x,y,z];rw[s];simp only[QY,h.H B,QB, *];grind
 |true=>
  rw[o]at h;rw[Ad (by grind)];let⟨I,u,g,E,t,T,n,W,xg,_,_,V⟩:=O1 U o
  have Y:AZ 2 [Z M.c g.I,.n c.n]=A (.pi (M.c E)):=by rw[n];exact Kz W
  have X:AZ 2 [Z AG.c a,.n b.n]=A (.pi (AG.c g)):=by rw[t];exact S4 T
  have l:=FW .u8 E.Ai 0;rw[xg];by_cases j:E.Ai=0
  .rw[Be j]at l;rw[Ad (λi=>i j)];have xj:(Jk a b.n λg=>⟨g.I.set c.n.n f,Fg c.n g.AV⟩)=a.set I ⟨g.I.set u f,Fg u g.AV⟩:=by unfold Jk;rw[V];simp only[];rw[t,n];rfl
   have xi:b=⟨b.Ai,I⟩:=by rw[<-t]
   have xh:c=⟨c.Ai,u⟩:=by rw[<-n]
   have F:=q;have H:=r;rw[xi]at F;rw[xh]at H;let⟨xr,xu,xv,xq,m,k,xe,xp⟩:=AdP a S T W b.Ai c.Ai f p F H xf R xk xl xm xn xo
   rw[xj,V,n];refine Fz.Qr B B (f:=.AC [.S [xr],xq,.n 0]) (d:=m) (c:=5) ?_ (sR xe.fz xp 0) (by omega);rw[LS.1];simp only[↓Jq,↓Q,↓QD,v,w,x,y,z];rw[s];simp only[QY,xb,xc,xa,h.H B,QB,LS.2.1,N,J,X,P,Y,l];grind
  .rw[Ba j]at l;rw[Af j];refine xd 6 ?_;rw[LS.1];simp only[↓Jq,↓Q,↓QD,v,w,x,y,z];rw[s];simp only[QY,xb,xc,xa,h.H B,QB,LS.2.1,N,J,X,P,Y,l,xs,xt];grind
variable{n:F}{o:Type}
def AaB{d:C o}{g:o->Ak}{e:D->G->R}{k:G->R}{f:G->Prop}(x:∀b h a,d[b]? =A h->f a->g h=L->∃c,e b a=e (b+1) c/\f c)(t:∀b h a,d[b]? =A h->f a->g h=Ac->∃c,e b a=A (n,c))(s:∀a,f a->e d.l a=k a):∀a,f a->(d.all g=L->∃c,e 0 a=k c/\f c)/\(d.all g=Ac->∃c,e 0 a=A (n,c)):=by
 have r:∀j b a,d.l-b=j->b<=d.l->f a->((d.d b).all g=L->∃c,e b a=k c/\f c)/\((d.d b).all g=Ac->∃c,e b a=A (n,c)):=by
  intro j
  induction j with
  |zero=>
   intro b a q p m;have:b=d.l:=by omega
   grind
  |succ j w=>
   intro b a q p m;let⟨h,v,u⟩:=Eh (b:=d) (a:=b) (by omega)
   grind
 intro a m;have:=r d.l 0 a (by omega) (by omega) m;grind
def OH(c:K)(a:AG):Ak:=(a.I.all λd=>JG d c)&&a.AV.all λb=>BY b.Cy 0 (a.I.l-1)&&Au (((a.I[b.Cy.n]?).g AK).Ai=0)
def No(a:C AG):K:=if(a.all (OH a.l)&&Au (BZ a<=6000))=L then 0 else 4
def Hl(b:M)(a:C K):M×C K:=if b.Ai=4 then(⟨b.Ai,((a.idxOf b.n:D):K)⟩,if a.idxOf b.n=a.l then a++[b.n]else a)else(b,a)
def CH:C M->C K->C M×C K
 |[],a=>([],a)
 |b::c,a=>((Hl b a).1::(CH c (Hl b a).2).1,(CH c (Hl b a).2).2)
def el(c:M):∀b a,CH (b++[c]) a=((CH b a).1++[(Hl c (CH b a).2).1],(Hl c (CH b a).2).2)
 |[],a=>rfl
 |d::b,a=>by show((Hl d a).1::(CH (b++[c]) (Hl d a).2).1,(CH (b++[c]) (Hl d a).2).2)=_;rw[el c b];rfl
def W2:∀a b,(CH a b).1.l=a.l
 |[],b=>rfl
 |c::a,b=>by show(CH a _).1.l+1=_;rw[W2 a];rfl
def AbP(b:M)(a:C _):(Hl b a).2.l<=a.l+1:=by
 unfold Hl;split;.grind
 .simp
def lN:∀b a,(CH b a).2.l<=a.l+b.l
 |[],a=>C6 _
 |c::b,a=>by show(CH b (Hl c a).2).2.l<=_;have d:=lN b (Hl c a).2;have e:=AbP c a;rw[AiD];omega
structure Afw(h:C M)(j:C K)(i:G)(e:Aa)(k f:F)(g:D)(c:F)(b:G):Prop where
 oc:AF b f M.c 2 ((CH (h.t g) j).1++h.d g)
 oo:AF b c Bq 1 (CH (h.t g) j).2
 gq:b.N e=A (.I 1 [c])
 lq:Lv b e
 aq:AE c e
 cq:AE f e
 d:CF f c
 BX:∀a,Lv i a->a≠e->AE k a->b.N a=i.N a/\Lv b a/\AE c a
def dM(a:F):C F:=[a]
structure MK(h:C M)(g:C (C M))(d:Aa)(e c:F)(f:C F)(b:G):Prop where
 ov:AF b e M.c 2 h
 os:AF b c dM 1 f
 all:Ge (λa i=>AF b a M.c 2 i) f g
 gx:b.N d=A (.I 2 [e,c])
 lx:Lv b d
 JC:∀a,a=e\/a∈f->AE a d/\CF a c
 sx:AE c d
def ML(f:Aa)(c d:F)(e:C F)(a:Aa):Prop:=a=f\/¬AE d a\/∃b,(b=c\/b∈e)/\¬AE b a
def Ge.Ae{d h:Type}{a:d->h->Prop}{b:C _}{f:C _}(e:Ge a b f){c:d}(i:c∈b):∃g,a c g:=by
 induction e with
 |nil=>grind
 |cons k _ j=>grind
def Ge.jg{h i:Type}{c d:h->i->Prop}{a:C _}{f:C _}(e:Ge c a f)(k:∀b g,b∈a->c b g->d b g):Ge d a f:=by
 induction e with
 |nil=>exact .nil
 |cons e _ j=>exact .cons P P
variable{g:F}
def MK.lv{k:C M}{j:C (C M)}{d:F}{h:C F}{e:G}(b:MK k j i d g h e){f:Aa}(a:ML i d g h f):Lv e f:=by
 rcases a with rfl|a|⟨l,c,a⟩;.exact b.lx
 .exact b.os.Dh a
 .rcases c with rfl|c;.exact b.ov.Dh a
  .let⟨m,_⟩:=b.all.Ae c
   grind
variable{f:F}{k:G}
def MK.Av{l:C M}{j:C (C M)}{e:Aa}{i:C F}{g:G}(b:MK l j e f h i k)(c:∀a,ML e f h i a->g.N a=k.N a/\Lv g a):MK l j e f h i g where
 ov:=b.ov.Av λa _ d=>c a (.j (.j ⟨f,.i B,d⟩))
 os:=b.os.Av λa _ d=>c a (.j (.i d))
 all:=b.all.jg λo p m n=>n.Av λa _ d=>c a (.j (.j ⟨o,.j m,d⟩))
 gx:=(c e (.i B)).1.t b.gx
 lx:=(c e (.i B)).2
 JC:=b.JC
 sx:=b.sx
def MK.add{S:C M}{y:C (C M)}{c:Aa}{l:F}{p:C F}{j:G}(b:MK S y c f n p j){q:C M}(u:AF j l M.c 2 q)(E:∀a,ML c f n p a->AE l a)(xm:p.l<100000):
  ∃h g k,(∀(x:F×G->R),((CB 1 1 j.next [l]).b λa=>(Eo 1 24 (G.V j a.1) [n,a.2]).b x)=x (h,g))/\A1 1 g [.p c 1,h]=A (Ax,k)/\MK S (y++[q]) c f h (p++[l]) k/\
   (∀a,Lv j a->¬ML c f n p a->k.N a=j.N a/\Lv k a/\(AE l a->¬ML c f h (p++[l]) a)):=by
 have W:Ct (dM l)=L:=by unfold dM;rw[EC];simp[(CS u).2]
 let⟨h,g,xd,v,z,U⟩:=GS (w:=1) (h:=24) (λ_=>B) W (CS u).1 b.os (EI (by omega))
 have r:=G9 (d:=1) ((z.N b.lx b.sx).t b.gx) (by omega) (by omega) (CS v).1 (CS v).2
 have xf:DJ 1 [h] [f,n]=[f,h]:=B
 rw[xf]at r
 have xa:∀a,a≠c->(g.set c (.I 2 [f,h])).N a=g.N a:=λa m=>by rw[AY,Ad m]
 have H:(g.set c (.I 2 [f,h])).N c=A (.I 2 [f,h]):=by rw[AY,Af B]
 have I:∀a,Lv (g.set c (.I 2 [f,h])) a=Lv g a:=by grind
 generalize g.set c (.I 2 [f,h])=k at r xa H I
 have xj:=E c (.i B)
 have X:=U c b.lx b.sx
 have xl:=(CF.of λa t=>E a (.j (.i t))).symm
 have s:∀a,Lv j a->AE n a->a≠c->k.N a=j.N a/\Lv k a:=by grind
 have J:∀{d:F}{a:Aa},AE d c->¬AE d a->a≠c:=by grind
 refine⟨h,g,k,xd,r,?_,λa m i=> ?_⟩
 .exact{
  ov:=b.ov.Av λa m i=>s a m ((b.JC f P).2.r i) (J (b.JC f P).1 i)
  os:=v.Av P
  all:=(b.all.jg λd q e N=>N.Av λa m i=>s a m ((b.JC d P).2.r i) (J (b.JC d P).1 i)).Xe (u.Av P)
  gx:=H
  lx:=by rw[I];exact z.lv b.lx b.sx
  JC:=λd e=>by
   have Q:∀{T:Type}{Z:T->C F}{xh:D}{xe:C T},AF j d Z xh xe->CF d n->CF d h:=λN xk=>CF.of P;rcases e with rfl|e;.exact⟨(b.JC d P).1,Q b.ov (b.JC d P).2⟩
   .rcases AiM.1 e with e|e
    .let⟨q,xc⟩:=b.all.Ae e
     exact⟨(b.JC d P).1,Q xc (b.JC d (.j e)).2⟩
    .grind
  sx:=X}
 .have V:=Aih λt=>i (.j (.i t));have xg:=λY=>i (.i Y);refine⟨P,(s a m V xg).2,λxi xb=> ?_⟩;rcases xb with rfl|g|⟨d,e,g⟩;.grind
  .grind
  .rcases e with rfl|e;.exact i (.j (.j ⟨d,.i B,g⟩))
   .rcases AiM.1 e with e|e;.exact i (.j (.j ⟨d,.j e,g⟩))
    grind
def MK.fz{f:C M}{b:C (C M)}{c:F}{h:C F}{d:G}(a:MK f b i c e h d):Fz 4 d (.S [c,e]) (.S (Cr.c ⟨f,b⟩)):=
 Fz.S (CI.cons ((Fz.CC (h:=2) (λ_=>B) (λ_=>B) a.ov).up (by omega)) (CI.cons (Fz.SL (f:=1) (by omega) (λ_=>B) (λ_=>B) a.os (a.all.imp λj k g=>CI.cons (Fz.CC (λ_=>B) (λ_=>B) g) (CI.nil _ _))) (CI.nil _ _)))
def dl(a:C AG):Prop:=∀b∈a,∀c∈b.I,Ll a c
def Rr(b:C AG)(a:C K):Prop:=a.Nodup/\∀c∈a,∃d,G_ b c=A d
def d1:∀(b:D)(a:C K),a.Nodup->(∀d∈a,0<=d/\d<b)->a.l<=b
 |0,a,_,c=>by
  cases a with
  |nil=>grind
  |cons f i=>have:=c f P;omega
 |b+1,a,e,c=>by
  by_cases g:(b:K)∈a;.have h:=d1 b (a.erase b) P P;grind
  .have:=d1 b a e P;omega
def Rr.le{b:C _}{c:C K}(a:Rr b c):c.l<=b.l:=d1 _ _ a.1 λf d=>by
 let⟨i,e⟩:=a.2 f d
 obtain⟨h,rfl,g⟩:=OG e;grind
def AbQ{b:C AG}{e:M}{d:C K}(c:Rr b d)(f:Ll b e):Rr b (Hl e d).2:=by
 unfold Hl;split
 .rename_i g;split
  .rename_i k;refine⟨Aj8.2 ⟨c.1,(by simp),λi l j m=> ?_⟩,λh a=> ?_⟩;.grind
   .rcases AiM.1 a with a|a;.exact c.2 h a
    .rw[Ai3.1 a];exact f g
  omega
 omega
def ek{c:C AG}:∀a {d:C K},Rr c d->(∀e∈a,Ll c e)->Rr c (CH a d).2
 |[],_,b,_=>b
 |e::a,d,b,f=>ek a (AbQ b P) P
def Jx(a:C AG)(b:K):C M:=match G_ a b with|some c=>c.I|none=>[]
def J7(b:C AG):D->D->C (C M)->C K->C (C M)
 |0,_,a,_=>a
 |f+1,d,a,c=>match c[d]?with
  |none=>a
  |some e=>J7 b f (d+1) (a++[(CH (Jx b e) c).1]) (CH (Jx b e) c).2
def GN(b:C AG)(a:C M):Cr:=⟨(CH a []).1,J7 b 401 0 [] (CH a []).2⟩
structure Afv(m:C M)(i:G)(d h:Aa)(e:F)(k:D)(j:C (C M))(l:C K)(g:C F)(f c:F)(b:G):Prop where
 P:MK m j h e f g b
 ac:j.l=k
 oo:AF b c Bq 1 l
 gq:b.N d=A (.I 1 [c])
 lq:Lv b d
 oq:AE c d
 Q8:∀a,ML h e f g a->a≠d/\AE c a
 BX:∀a,Lv i a->a≠d->b.N a=i.N a/\Lv b a/\¬ML h e f g a/\AE c a
def Agx(a:C AG)(b:C M):Cr×K:=
 if No a≠0 then(⟨[],[]⟩,No a)
 else if 100<b.l\/(b.all λc=>JG c a.l)=Ac then(⟨[],[]⟩,2)
 else(GN a b,0)
def cO{c:C _}{b:M}(a:JG b c.l=L):Ll c b:=λd=>by
 rw[R8 b (by omega)]at a;unfold GP at a;rw[d,Ad (by grind),Ad (by grind),Ad (by grind),Af B]at a;unfold BY at a;simp only[Aie,Ain]at a;let⟨e,_⟩:=Bo (b:=c) (a:=b.n.n) (by omega)
 refine⟨e,?_⟩;unfold G_;grind
def qB{c:C AG}(b:No c=0):dl c:=λe d g f=>by
 unfold No at b;split at b;.rename_i a;rw[Aie]at a;have:=AiP.1 a.1 e d;unfold OH at this;rw[Aie]at this;exact cO P
 omega
structure Rn(e:C AG)(c:Aa)(b:F)(d f:D->F)(a:G):Prop where
 M:Dn a b d f e
 gx:a.N c=A (.I 1 [b])
 lx:Lv a c
 nx:¬Ck b d f e.l c
def Rn.Av{g:C _}{c:Aa}{d i:D->F}{e f:G}(b:Rn g c h d i e)(j:∀a,Lv e a->a=c\/Ck h d i g.l a->f.N a=e.N a/\Lv f a):Rn g c h d i f where
 M:=b.M.Av P
 gx:=(j c b.lx P).1.t b.gx
 lx:=(j c b.lx P).2
 nx:=b.nx
def Rn.add{b:C AG}{d:Aa}{i j:D->F}(o:Rn b d n i j k){p:AG}(X:AF k f M.c 2 p.I)(Y:AF k h BU.c 2 p.AV)(N:CF f h)(S:∀r,r=d\/Ck n i j b.l r->AE f r/\AE h r)(U:b.l<1000000):
  ∃c e l,(∀(E:F×G->R),((CB 1 2 k.next [.S [f,h]]).b λa=>(Eo 2 48 (G.V k a.1) [n,a.2]).b E)=E (c,e))/\A1 1 e [.p d 0,c]=A (Ax,l)/\l.N d=A (.I 1 [c])/\
   Rn (b++[p]) d c (Cf i b.l f) (Cf j b.l h) l/\(∀a,Lv k a->a≠d->¬Ck n i j b.l a->l.N a=k.N a/\Lv l a/\(AE f a->AE h a->¬Ck c (Cf i b.l f) (Cf j b.l h) (b++[p]).l a)):=by
 have t:∀{z:F},(∀a,¬AE z a->Ck n i j b.l a)->CF z f/\CF z h:=λy=>⟨CF.of P,CF.of λa m=>(S a (.j (y a m))).2⟩
 have Q:=t (z:=n) λa m=>.i m
 let⟨c,e,y,s,H,Z⟩:=o.M.EK X Y N P Q.2 (λg q=>by have xa:=t (z:=i g) λa m=>.j ⟨g,q,.i m⟩;have xb:=t (z:=j g) λa m=>.j ⟨g,q,.j m⟩;grind) U
 have xh:=FC.1 o.nx
 have J:=Xj ((H.N o.lx P).t o.gx) (CS s.o).1 (CS s.o).2
 have T:∀a,a≠d->(e.set d (.I 1 [c])).N a=e.N a:=λa x=>by rw[AY,Ad x]
 have w:(e.set d (.I 1 [c])).N d=A (.I 1 [c]):=by rw[AY,Af B]
 have I:∀a,Lv (e.set d (.I 1 [c])) a=Lv e a:=by grind
 generalize e.set d (.I 1 [c])=l at J T w I
 have xf:(b++[p]).l=b.l+1:=by simp
 have V:∀a,Lv k a->AE n a->(∀g,g<b.l->AE (i g) a/\AE (j g) a)->AE f a->AE h a->¬Ck c (Cf i b.l f) (Cf j b.l h) (b++[p]).l a:=λa x e l xd xe=>by
  refine FC.2 ⟨P,λg q=> ?_⟩;by_cases v:g=b.l;.subst v;rw[EH,EH];grind
  .rw[CQ v,CQ v];grind
 have W:=V d o.lx P P P P
 refine⟨c,e,l,y,J,w,?_,λa x xg q=> ?_⟩
 .exact{M:=s.Av P,gx:=w,lx:=by rw[I];exact H.lv o.lx P,nx:=W}
 .have xc:=FC.1 q;grind
theorem l2(c:Aa)(a b:M):CB 2 2 c [.S (M.c a),.S (M.c b)]=A (.I 4 ([a,b].f M.c),.Z c 0 2 3 2):=rfl
def k7(a:G)(b c:M):AF (a.V (.I 4 ([b,c].f M.c))) (.Z a.next 0 2 3 2) M.c 2 [b,c]:=.j ⟨a.next,3,B,P,P,P⟩
def Fr(c a d:K)(b:Ak):M:=if a<d then DB (c+a)else if b=L then Di else AK
def iI(d c k:K)(j:Ak)(p:0<=d/\d<=1000000)(o:0<=c/\c<=10000000):A2 133 [.n d,.n c,.n k,.b j] (.S (M.c (Fr d c k j))):=BP B B B (by
 have n:=GJ (a:=d) (b:=c) (by omega) (by omega);have h:∀e:M,A1 2 (G.Az.V (.I 2 [.i .u8 0,.n 0])) [.p .h 0,.S (M.c e)]=A (Ax,(G.Az.V (.I 2 [.i .u8 0,.n 0])).set .h (.I 2 (M.c e))):=λe=>Ho (by rfl) B B;have g:∀e:M,((G.Az.V (.I 2 [.i .u8 0,.n 0])).set .h (.I 2 (M.c e))).AU .h 0 2=A (M.c e):=λe=>B2 (by rw[AY,Af B]);have m:G.Az.next=.h:=B;generalize l:G.Az.V (.I 2 [.i .u8 0,.n 0])=i at h g;rw[jD.1];unfold Fr;by_cases f:c<k;.rw[Af f];refine⟨i.set .h (.I 2 (M.c (DB (d+c)))),?_⟩;simp only[QY,(h_ (d+c)).H B,H (h _),H (g _), *]
 .rw[Ad f]
  cases j with
  |true=>refine⟨i.set .h (.I 2 (M.c Di)),?_⟩;simp only[QY,m,l,reduceIte,f,QB,cm.H B,h _,g _]
  |false=>refine⟨i.set .h (.I 2 (M.c AK)),?_⟩;simp only[↓Q,m,l,↓reduceIte,↓QT,Aic,f,QB,jD.2,↓QE,↓H (h _),↓H (g _)])
def JL(b d:K)(a:Ak):D->C K->C AG
 |_,[]=>[]
 |c,f::e=>⟨[Ed f,Fr b (c+1:D) d a],[]⟩::JL b d a (c+1) e
def db(d e:K)(c:Ak)(f:K):∀(b:C _)(a:D),JL d e c a (b++[f])=JL d e c a b++[⟨[Ed f,Fr d (a+b.l+1:D) e c],[]⟩]
 |[],a=>rfl
 |g::b,a=>by show _::JL _ _ c (a+1) (b++[f])=_::(JL d e c (a+1) b++_);rw[db d e c f b (a+1),AiD,show a+1+b.l+1=a+(b.l+1)+1 by omega]
def Wm(d e:K)(b:Ak):∀(a:C _)(c:D),(JL d e b c a).l=a.l
 |[],c=>rfl
 |f::a,c=>by show(JL _ _ b _ a).l+1=_;rw[Wm _ _ b a _];rfl
def OU(b:C AG×C M)(a:C K×Ak):C AG×C M:=(b.1++JL b.1.l a.1.l a.2 0 a.1,b.2++[Fr b.1.l 0 a.1.l a.2])
def K3(a:C (C K×Ak)):C AG×C M:=a.foldl OU ([],[])
def a2{b:C _}{a:D}{c:C _×Ak}(d:b[a]? =A c):K3 (b.t (a+1))=OU (K3 (b.t a)) c:=by unfold K3;rw[<-Gv d,List.foldl_append];rfl
def El:C (C K)->D
 |[]=>0
 |a::b=>a.l+El b
def U2{c:C (C K)}{a:D}{b:C K}(e:c[a]? =A b):El (c.t (a+1))=El (c.t a)+b.l:=by
 induction c generalizing a with
 |nil=>grind
 |cons d f g=>
  cases a with
  |zero=>cases e;show b.l+0=0+b.l;omega
  |succ a=>show d.l+El _=d.l+El (f.t a)+b.l;grind
def eG{b:C (C K)}(a:D):El (b.t a)<=El b:=by
 induction b generalizing a with
 |nil=>simp
 |cons d c e=>
  cases a with
  |zero=>exact AiO _
  |succ a=>show d.l+El (c.t a)<=d.l+El c;grind
def Vs{b:C (C K)}{c:C Ak}:∀{a:D},a<=b.l->b.l=c.l->(K3 ((b.zip c).t a)).1.l=El (b.t a)/\(K3 ((b.zip c).t a)).2.l=a
 |0,_,_=>⟨B,B⟩
 |a+1,k,e=>by
  let⟨h,f⟩:=Bo (b:=b) (a:=a) (by omega)
  let⟨d,j⟩:=Bo (b:=c) (a:=a) (by omega)
  have g:(b.zip c)[a]? =A (h,d):=by grind
  have m:=Vs (b:=b) (c:=c) (a:=a) (by omega) e;rw[a2 g,U2 f];unfold OU;simp only[Aio,Wm,Ajg];omega
def JE(a:K):Ak:=BY a (-1000000000) 1000000000
theorem M0{d:Type}(c:G)(b:C K)(a:F->Aj d):(AW c [.pi (CG b)]).b a=a (Z Bq b):=rfl
theorem Zd{d:Type}(c:G)(b:K)(a:F->Aj d):(AW c [.pi (Bq b)]).b a=a (.n b):=rfl
theorem Zb{d:Type}(c:G)(b:Ak)(a:F->Aj d):(AW c [.pi (Db b)]).b a=a (.b b):=rfl
theorem w8(b:G)(a:C K):BV .Dg [.pi (CG a)] b (Z Bq a)=L:=NR _
theorem w7(b:G)(a:Ak):BV .Dg [.pi (Db a)] b (.b a)=L:=NR _
section
variable(t:C (C K)) (u:C Ak)
theorem fA{a:Aa}{b:G}(c:b.N a=A (.I 1 [.sn])):A1 1 b [.p a 0,.S [.sn]]=A (Ax,b.set a (.I 1 [.sn]))/\(b.set a (.I 1 [.sn])).AU a 0 1=A [.sn]:=⟨Ho c B B,B2 (by rw[AY,Af B])⟩
theorem Yd:BE [.sn] [] []=A (.S [.sn]):=rfl
theorem vh{c:Aa}{g:D}{h:C K}(n:t[g]? =A h)(s:h.l<=2000000)(k:K){b:G}(p:b.N c=A (.I 1 [.sn])):(h.all JE=L->∃a,jj W9 85 14 [.n 0,.n k,.n g,Z CG t,Z Db u,.p c 0] b=jj W9 85 13 [.n k,.n g,Z CG t,Z Db u,.p c 0] a/\a=b)/\(h.all JE=Ac->∃a,jj W9 85 14 [.n 0,.n k,.n g,Z CG t,Z Db u,.p c 0] b=A (.AC [.S [.sn],.sn,.n 3],a)):=by
 let⟨q,r⟩:=fA p
 refine AaB (e:=λl b=>jj W9 85 14 [.n l,.n k,.n g,Z CG t,Z Db u,.p c 0] b) ?_ ?_ ?_ b B;.intro l j a f e m;subst e;have o:=Dx (Aid.1 f).1;have d:=Nr j (-1000000000) 1000000000;rw[show BY j (-1000000000) 1000000000=L from m]at d;refine⟨a,?_,B⟩;rw[Gm.2.2.2.2.2.2.2.1];simp only[QY,Kg n,M0,o,Gm.2.2.2.2.2.2.2.2.1,Y1 f,Zd,d.H B,Gm.2.2.2.2.2.2.2.2.2.1,BF (a:=l) (by omega)]
 .intro l j a f e m;subst e;have d:=Nr j (-1000000000) 1000000000;rw[show BY j (-1000000000) 1000000000=Ac from m]at d;refine⟨a.set c (.I 1 [.sn]),?_⟩;rw[Gm.2.2.2.2.2.2.2.1];simp only[QY,Kg n,M0,(Dx (Aid.1 f).1),Gm.2.2.2.2.2.2.2.2.1,Y1 f,Zd,d.H B,Yd,q,r]
 .intro a e;subst e;rw[Gm.2.2.2.2.2.2.2.1];simp only[Q,QT,Aic,H (Kg n),M0,(Dz h.l)]
theorem AeK(N:t.l<=2000000)(z:∀c∈t,c.l<=2000000){h:Aa}{e:G}(x:e.N h=A (.I 1 [.sn])):(t.all (λc=>c.all JE)=L/\jj W9 85 11 [.n 0,.n 0,Z CG t,Z Db u,.p h 0] e=jj W9 85 10 [.n (El t),Z CG t,Z Db u,.p h 0] e)\/(t.all (λc=>c.all JE)=Ac/\∃f,jj W9 85 11 [.n 0,.n 0,Z CG t,Z Db u,.p h 0] e=A (.AC [.S [.sn],.sn,.n 3],f)):=by
 refine Of (f:=t.l) (d:=λg (d:D) e=>jj _ _ 11 [.n g,.n d,Z CG t,Z Db u,.p h 0] e) (e:=λg d f=>f=e/\d=El (t.t g)/\d<=g*2000000/\(t.t g).all (λc=>c.all JE)=L)
  (g:=λw=>(t.all (λc=>c.all JE)=L/\w=jj W9 85 10 [.n (El t),Z CG t,Z Db u,.p h 0] e)\/(t.all (λc=>c.all JE)=Ac/\∃f,w=A (.AC [.S [.sn],.sn,.n 3],f))) ?_ ?_ (b:=0) ⟨B,B,by omega,B⟩
 .intro g d f v m
  obtain⟨rfl,k,y,j⟩:=m
  let⟨c,l⟩:=Bo v
  have E:=z c P
  have r:=Dx v
  let⟨J,M⟩:=vh t u l E d x
  cases o:c.all JE with
  |true=>
   obtain⟨q,p,rfl⟩:=J o;left;refine⟨d+c.l,q,?_,B,by rw[U2 l,k],by omega,?_⟩;.rw[Gm.2.2.2.1];simp only[Q,QT,r,Gm.2.2.2.2.1,p,Gm.2.2.2.2.2.2.1,H (Kg l),M0,H (GJ (a:=d) (b:=c.l) (by omega) (by omega)),Gm.2.2.2.2.2.1,H (BF (a:=g) (by omega)),Akt]
   .rw[<-Gv l,Ajm,j,AiK,o];rfl
  |false=>
   let⟨q,p⟩:=M o
   right;right;refine⟨?_,q,?_⟩;.grind
   .rw[Gm.2.2.2.1];simp only[Q,QT,r,Gm.2.2.2.2.1,p]
 .intro d f m;obtain⟨rfl,k,y,j⟩:=m;rw[HV]at k j;subst k;left;refine⟨j,?_⟩;rw[Gm.2.2.2.1];simp only[Q,QT,Aic,(Dz t.l)]
end
structure HW(i:G)(h:Aa)(c:C AG×C M)(f e:F)(d g:D->F)(b:G):Prop where
 B:Rn c.1 h f d g b
 ou:AF b e M.c 2 c.2
 ux:∀a,¬AE e a->a≠h/\¬Ck f d g c.1.l a
 BX:∀a,Lv i a->b.N a=i.N a/\Lv b a/\a≠h/\¬Ck f d g c.1.l a/\AE e a
theorem AeF{t:C (C K)}{u:C Ak}{I:G}{l V:Aa}{p g j:D}{k:C K}{o:Ak}{f:K}(xh:t[p]? =A k)(xg:u[p]? =A o)(T:k[g]? =A f)(xq:k.l<=2000000){h:C AG×C M}(xs:h.1.l<=400)(xp:j<=400){y r:F}{w E:D->F}{a:G}(c:HW I l h y r w E a):
  ∃z xa xm S,jj W9 85 5 [.n g,r,.n j,.n p,Z CG t,Z Db u,.p l 0,.p V 0] a=jj W9 85 5 [.n (g+1:D),r,.n j,.n p,Z CG t,Z Db u,.p l 0,.p V 0] S/\
   HW I l (h.1++[⟨[Ed f,Fr j (g+1:D) k.l o],[]⟩],h.2) z r xa xm S:=by
 have Y:=Dx (Aid.1 T).1
 have R:=iI j (g+1:D) k.l o (by omega) (by omega)
 generalize xr:Fr j (g+1:D) k.l o=n at R
 have v:AR a (a.V (.I 4 ([Ed f,n].f M.c))):=AR.V _ _
 have x:=k7 a (Ed f) n
 have J:∀b,Lv a b->AE (.Z a.next 0 2 3 2) b:=λb d=>Fe λxb=>by subst xb;exact FO a d
 have xl:=l2 a.next (Ed f) n
 have xc:BE [.sn,.sn] [(0,1)] [.Z a.next 0 2 3 2]=A (.S [.Z a.next 0 2 3 2,.sn]):=B
 generalize xo:F.Z a.next 0 2 3 2=X at x J xl xc
 generalize xf:a.V (.I 4 ([Ed f,n].f M.c))=xd at v x
 let⟨z,xn,xe,xi,xv,_,W,N⟩:=(c.B.Av λb d _=>⟨v.N d,v.lv d⟩).add (p:=⟨[Ed f,n],[]⟩) x (AF.sn xd) (LG _) (λe m=>⟨J e ((λe m=>by
  rcases m with rfl|m;.exact c.B.lx
  .exact c.B.M.lv m:∀e,e=l\/Ck y w E h.1.l e->Lv a e) e m),CM e⟩) (by omega)
 refine⟨z,Cf w h.1.l X,Cf E h.1.l .sn,xe,?_,?_⟩
 .rw[Gm.2.2.2.2.2.2.2.2.2.2.2.2.2.2.2.2.1];simp only[Q,QT,H (Kg xh),M0,Y,Gm.2.2.2.2.2.2.2.2.2.2.2.2.2.2.2.2.2.1,H (AJ c.B.gx 0),H (Y1 T),Zd,(R4 f).H B,(Jd c.B.gx B:BV .Dg [.p l 0] a y=L),w8,w7,MP,H (BF (a:=g) (by omega)),H (XZ xg),Zb,R.H B,xf,xi,Gm.2.2.2.2.2.2.2.2.2.2.2.2.2.2.2.2.2.2,ZR, *]
 .exact{
  B:=W
  ou:=c.ou.Av λb d q=>by have:=c.ux b q;grind
  ux:=λb q=>by have d:=c.ou.Dh q;have:=c.ux b q;exact⟨P,(N b P P P).2.2 P (CM b)⟩
  BX:=λb d=>by
   let⟨xt,xu,U,xj,xk⟩:=c.BX b d
   exact⟨P,P,U,(N b P U xj).2.2 P (CM b),xk⟩}
theorem w4{t:C (C K)}{u:C Ak}{n:G}{e m:Aa}{g:D}{b:C K}{d:Ak}(S:t[g]? =A b)(xa:u[g]? =A d)(xt:g<3000000){a:C AG×C M}(xu:a.1.l+b.l<=400)(xv:a.2.l<3000000){T k:F}{E V:D->F}{j:G}(o:HW n e a T k E V j):∃U z J W p,jj W9 85 2 [Z CG t,Z Db u,.n g,.p e 0,k,.p m 0] j=jj W9 85 2 [Z CG t,Z Db u,.n (g+1:D),.p e 0,z,.p m 0] p/\HW n e (OU a (b,d)) U z J W p:=by
 have xd:=C4 o.B.M.o;rw[Aip]at xd;obtain⟨⟨xe,Y,xf⟩,xg,R,h⟩:=Ez
  (g:=λl v j=>HW n e (a.1++JL a.1.l b.l d 0 (b.t l),a.2) v.1 k v.2.1 v.2.2 j)
  (λl v j xj o=>by
   obtain⟨xq,xc⟩:=Bo xj;have xk:(a.1++JL a.1.l b.l d 0 (b.t l)).l<=400:=by rw[Aio,Wm,AiH];omega
   obtain⟨U,J,W,p,N,xr⟩:=AeF (V:=m) (j:=a.1.l) S xa xc (by omega) xk (by omega) o;refine⟨(U,J,W),p,N,?_⟩;have xi:=db a.1.l b.l d xq (b.t l) 0;rw[Gv xc,AiH,show min l b.l=l by omega,Aix]at xi;grind)
  (b:=(T,E,V)) (by rw[Aku];show HW n e (a.1++[],a.2) T k E V j;rw[Aiy];grind)
 have R:jj W9 85 5 [.n 0,k,.n a.1.l,.n g,Z CG t,Z Db u,.p e 0,.p m 0] j=jj W9 85 5 [.n b.l,k,.n a.1.l,.n g,Z CG t,Z Db u,.p e 0,.p m 0] xg:=R;rw[HV]at h;obtain⟨z,xh,xm,xp,xs,X⟩:=GS (w:=2) (b:=Fr a.1.l 0 b.l d) (o:=.S (M.c (Fr a.1.l 0 b.l d))) (λ_=>B) B B h.ou (EI (by show(a.2.l+1)*16<=_;omega));have xl:∀c,c=e\/Ck xe Y xf (a.1++JL a.1.l b.l d 0 b).l c->AE k c:=λc q=>Aih λr=>by
  have:=h.ux c r;rcases q with rfl|q;.grind
  .grind
 refine⟨xe,z,Y,xf,xh,?_,?_⟩;.rw[Gm.2.2.2.2.2.2.2.2.2.2.2.2.1];simp only[QY,(Dx (Aid.1 S).1),Gm.2.2.2.2.2.2.2.2.2.2.2.2.2.1,AJ o.B.gx 0,xd];rw[R,Gm.2.2.2.2.2.2.2.2.2.2.2.2.2.2.2.2.1];simp only[Q,QT,Aic,H (Kg S),M0,(Dz b.l),Gm.2.2.2.2.2.2.2.2.2.2.2.2.2.2.2.1,H (XZ xa),Zb,(iI a.1.l 0 b.l d (by omega) (by omega)).H B,xm,Gm.2.2.2.2.2.2.2.2.2.2.2.2.2.2.1,H (BF (a:=g) (by omega))]
 .exact{
  B:=h.B.Av P
  ou:=xp
  ux:=λc r=>by
   constructor;.intro N;subst N;exact r (X c h.B.lx P)
   .intro xb;exact r (X c (h.B.M.lv xb) (xl c (.j xb)))
  BX:=λc q=>by
   let⟨xw,xx,xn,xo,xy⟩:=h.BX c q
   exact⟨P,P,xn,xo,P⟩}
def B1(t:C (C K))(u:C Ak):C AG×C M×K:=
 if t.l≠u.l then([],[],2)
 else if t.all (λa=>a.all JE)=Ac then([],[],3)
 else if 400<El t then([],[],5)
 else((K3 (t.zip u)).1,(K3 (t.zip u)).2,0)
theorem sQ{a:G}{f e:F}{d:C AG}{c:C M}(g:Fz 3 a f (Z AG.c d))(h:AF a e M.c 2 c)(b:K):Fz 5 a (.AC [.S [f],e,.n b]) (.AC [.S (B3 d),Z M.c c,.n b]):=
 Fz.AC (CI.cons (Fz.S (CI.cons g (CI.nil _ _))) (CI.cons ((Fz.CC (h:=2) (λ_=>B) (λ_=>B) h).up (by omega)) (CI.cons ((Fz.im B).up (by omega)) (CI.nil _ _))))
theorem um(t:C (C K))(u:C Ak)(xF:t.l<=2000000)(xm:∀v∈t,v.l<=2000000):A2 85 [Z CG t,Z Db u] (.AC [.S (B3 (B1 t u).1),Z M.c (B1 t u).2.1,.n (B1 t u).2.2]):=by
 have X:G.Az.next=.h:=B;generalize T:G.Az.V (.I 1 [.sn])=a;have q:a.N .h=A (.I 1 [.sn]):=by grind
 have xr:Lv a .h:=by grind
 let⟨Y,xa⟩:=fA q
 have z:∀(c:K),(∃S,xx W9 85 [Z CG t,Z Db u] G.Az=A (.AC [.S [.sn],.sn,.n c],S))->A2 85 [Z CG t,Z Db u] (.AC [.S (B3 []),Z M.c [],.n c]):=λc b=>by
  let⟨S,b⟩:=b
  exact FN B B b B
 unfold B1;by_cases E:t.l=u.l
 .rw[Ad Om];have o:t.l=u.l:=by omega
  have xb:∀{m:R},jj W9 85 11 [.n 0,.n 0,Z CG t,Z Db u,.p .h 0] a=m->xx W9 85 [Z CG t,Z Db u] G.Az=m:=λ{m} c=>by rw[Gm.1];simp only[↓Q,↓QT,X,T,o,Gm.2.1];grind
  rcases AeK t u (by omega) xm q with⟨J,c⟩|⟨J,N,c⟩
  .rw[J,Ad (by grind)];have j:=E6 .n (El t) 400;by_cases H:400<El t;.rw[Be (by omega)]at j;rw[Af H];refine z 5 ⟨a.set .h (.I 1 [.sn]),xb ?_⟩;rw[c,Gm.2.2.1];simp only[QY,j,Yd,Y,xa]
   .rw[Ba (by omega)]at j;rw[Ad H];have xd:AR a (a.V (.I 1 [.sn])):=AR.V _ _;have r:(a.V (.I 1 [.sn])).N a.next=A (.I 1 [.sn]):=by grind
    have w:Lv (a.V (.I 1 [.sn])) a.next:=by grind
    have y:A1 1 (a.V (.I 1 [.sn])) [.p a.next 0,.S [.sn]]=A (Ax,a.V (.I 1 [.sn])):=FL B B;have xs:¬Lv a a.next:=FO _;generalize xp:a.next=h at r w y xs;generalize xl:a.V (.I 1 [.sn])=k at xd r w y;let⟨⟨g,xc,xj,xz⟩,b,p,e⟩:=Ez (h:=t.l) (f:=λd (f:F×F×(D->F)×(D->F)) b=>jj W9 85 2 [Z CG t,Z Db u,.n d,.p h 0,f.2.1,.p .h 0] b)
     (g:=λd f b=>HW a h (K3 ((t.zip u).t d)) f.1 f.2.1 f.2.2.1 f.2.2.2 b)
     (λd f b U e=>by
      let⟨v,V⟩:=Bo U
      let⟨xh,xn⟩:=Bo (b:=u) (a:=d) (by omega)
      have xq:(t.zip u)[d]? =A (v,xh):=by grind
      let⟨xH,xI⟩:=Vs (a:=d) (by omega) E
      have xJ:=U2 V;have xK:=eG (b:=t) (d+1);obtain⟨xy,xw,xk,xA,N,c,xD⟩:=w4 V xn (by omega) (by omega) (by omega) e;refine⟨(xy,xw,xk,xA),N,c,?_⟩;rw[a2 xq];grind)
     (b:=(.sn,.sn,λ_=>.sn,λ_=>.sn)) ({
     B:={M:=Dn.nil _ _ _,gx:=r,lx:=w,nx:=FC.2 ⟨CM _,P⟩}
     ou:=AF.sn k
     ux:=λx W=>A_ (CM x) W
     BX:=λx xG=>⟨P,P,P,FC.2 ⟨CM _,λd U=>by grind⟩,CM x⟩}:HW a h ([],[]) .sn .sn (λ_=>.sn) (λ_=>.sn) k)
    have p:jj W9 85 2 [Z CG t,Z Db u,.n 0,.p h 0,.sn,.p .h 0] k=jj W9 85 2 [Z CG t,Z Db u,.n t.l,.p h 0,xc,.p .h 0] b:=p;rw[AiX (by grind)]at e;let⟨xt,xL,xM,xN,xO⟩:=e.BX .h xr
    have xg:Ct [g]=L:=by rw[EC];simp[(CS e.B.M.o).2]
    have xv:=B2 e.B.gx;have xB:=Ho (xt.t q) B xg;have xC:(b.set .h (.I 1 [g])).AU .h 0 1=A [g]:=B2 (by rw[AY,Af B]);have xi:=Dz t.l;have xe:Dn (b.set .h (.I 1 [g])) g xj xz (K3 (t.zip u)).1:=e.B.M.Av λxu xo xE=>⟨by rw[AY,Ad P],by grind⟩;have xf:AF (b.set .h (.I 1 [g])) xc M.c 2 (K3 (t.zip u)).2:=e.ou.Av λxu xo W=>⟨by rw[AY,Ad P],by grind⟩;refine Fz.Qr B B (xb ?_) (sQ xe.fz xf 0) (by omega);rw[c,Gm.2.2.1];simp only[QY,j,Gm.2.2.2.2.2.2.2.2.2.2.1,Yd,xp,xl,y];rw[p,Gm.2.2.2.2.2.2.2.2.2.2.2.2.1];simp only[QY,xi,Gm.2.2.2.2.2.2.2.2.2.2.2.1,xv,xB,xC]
  grind
 .rw[Af E];have o:¬t.l=(u.l:K):=by omega
  refine z 2 ⟨a.set .h (.I 1 [.sn]),?_⟩;rw[Gm.1];simp only[QY,X,T,o,Yd,Y,xa]
def gC{d:o->C F}{c m:D}(M:∀n,(d n).l=c)(J:∀n,Ct (d n)=L){b:G}{a:C o}(v:AF b g d c a)(T:a.l*m<=Hs):∃j h,Eo c m (b.V (.I 0 [])) [.Z b.next 0 0 1 c,g]=A (j,h)/\AF h j d c a/\AR b h/\EV b j:=by
 let⟨j,h,q,N,r,x⟩:=ZE (f:=d) (w:=c) (c:=[]) (a:=a) (i:=m) M (UM b d c) (by grind)
 have p:AR b (b.V (.I 0 [])):=AR.V _ _;have y:∀e,Lv b e->AE (.Z b.next 0 0 1 c) e:=λe i=>Fe λq=>by subst q;exact FO b i
 have P:=v.ext p;have z:∀a:C o,Ct (a.f d)=L:=λa=>by
  induction a with
  |nil=>rfl
  |cons n U s=>rw[EC]at s⊢;rw[AiV,Ajm,s,<-EC,J];rfl
 refine⟨j,h,?_,N,λe i=> ?_,λe i=>x e (p.lv i) (y e i)⟩
 .show(match KP g with|some t=>(match HO (b.V (.I 0 [])) c t g with|some u=>An (Ct u) (LA (b.V (.I 0 [])) c m (.Z b.next 0 0 1 c) t u) O|none=>O)|none=>O)=_;have r:KP g=A a.l:=by rcases v with⟨rfl,rfl⟩|⟨k,E,rfl,_⟩<;>rfl
  have H:HO (b.V (.I 0 [])) c a.l g=A (a.f d):=by
   rcases P with⟨rfl,rfl⟩|⟨k,E,rfl,R,I,S⟩;.rfl
   .show An (Bb c c&&Co a.l a.l) (An (Bb a.l 0) (A []) ((b.V (.I 0 [])).AU k 0 (a.l*c))) O=_;rw[AiG,Air (C6 _)];show An (Bb a.l 0) (A []) ((b.V (.I 0 [])).AU k 0 (a.l*c))=_;by_cases Q:a.l=0
    .have:a=[]:=by grind
     subst this;rfl
    .rw[G0 Q];show(b.V (.I 0 [])).AU k 0 (a.l*c)=_;rw[EA I,Af (by omega),Af B]
  rw[r];simp only[H];rw[z];grind
 .grind
theorem hm:H1 Ac [.sn,.sn]=A (.b L):=rfl
theorem hl(a:Aa)(d c b e:D):H1 Ac [.Z a d c b e,.sn]=A (.b Ac):=rfl
def tq{d:C M}(q:AF a g M.c 2 d)(s:d.l<1000000):∃c b,W9 (Ar 149) [g] a=A (c,b)/\AF b c M.c 2 d/\AR a b/\EV a c:=by
 rcases q with⟨rfl,rfl⟩|⟨i,j,p,l,m,n⟩;.refine⟨.sn,a,Bd B B ?_,AF.sn a,λe o=>⟨B,o⟩,λe _=>CM e⟩;rw[cV.1];simp only[QY,hm]
 .subst p;let⟨c,b,t,r,k,h⟩:=gC (d:=M.c) (c:=2) (m:=16) (λ_=>B) (λ_=>B) (.j ⟨i,j,B,l,m,n⟩) (EI (by omega))
  refine⟨c,b,Bd B B ?_,r,k,h⟩;rw[cV.1];simp only[QY,H (hl _ _ _ _ _),cV.2,H (P7 2 _), *]
def tr{d:C BU}(q:AF a g BU.c 2 d)(s:d.l<1000000):∃c b,W9 (Ar 150) [g] a=A (c,b)/\AF b c BU.c 2 d/\AR a b/\EV a c:=by
 rcases q with⟨rfl,rfl⟩|⟨i,j,p,l,m,n⟩;.refine⟨.sn,a,Bd B B ?_,AF.sn a,λe o=>⟨B,o⟩,λe _=>CM e⟩;rw[cW.1];simp only[QY,hm]
 .subst p;let⟨c,b,t,r,k,h⟩:=gC (d:=BU.c) (c:=2) (m:=16) (λ_=>B) (λ_=>B) (.j ⟨i,j,B,l,m,n⟩) (EI (by omega))
  refine⟨c,b,Bd B B ?_,r,k,h⟩;rw[cW.1];simp only[QY,H (hl _ _ _ _ _),cW.2,H (P7 2 _), *]
def Jt.CC{c:o->C _}{a:D}{g:G}{k:F}{j:C _}(d:∀b,(c b).l=a)(f:AF g k c a j):Jt (AR g) k a j (λb=>.S (c b)) (Bf a)where
 AX:=C4 f
 bp:=λq b e=>by
  let⟨m,h⟩:=Dm d f e
  refine⟨_,h.ia,λp l=> ?_⟩;let⟨n,i⟩:=Dm d (f.ext l) e
  have:n=m:=by have:=i.ia;rw[h.ia]at this;cases this;rfl
  subst this;rw[Gk,i.AU d e];rfl
def of{f:G}{c:Aa}{b:K}(h:0<=b/\b<=1000000000)(k:f.N c=A (.I 1 [.n b]))(i:Lv f c)(l:C M):NU (AR f) (Ar 187) [.p c 0] l (λa=>.S (M.c a)) (λa=> !JG a b):=λa _ e d=>by have g:=YF a b h;rw[<-R8 a h.1]at g;refine⟨e.V (.I 2 (M.c a)),Bd B B ?_,d.AQ (AR.V _ _)⟩;have m:(e.V (.I 2 (M.c a))).AA c 0=A (.n b):=AJ ((Ke (d.lv i) _).t ((d.N i).t k)) 0;show xx W9 187 [.S (M.c a),.p c 0] e=A (.b (!JG a b),_);generalize JG a b=j at g⊢;rw[v2];cases j<;>simp only[QY,QV,g.H B,QB, *]
def og{j:Aa}{m Z:F}{e:AG}(xa:e.I.l<=100)(T:k.N j=A (.I 2 [m,Z]))(W:Lv k j)(X:AF k m M.c 2 e.I)(V:C BU):NU (AR k) (Ar 189) [.p j 0] V (λh=>.S (BU.c h)) (λc=> !(BY c.Cy 0 (e.I.l-1)&&Au (((e.I[c.Cy.n]?).g AK).Ai=0))):=λc _ d P=>by
 have s:AR d (d.V (.I 2 (BU.c c))):=AR.V _ _
 have z:(d.V (.I 2 (BU.c c))).N d.next=A (.I 2 (BU.c c)):=by grind
 have r:∀(I:F->G->R),bl (.p d.next 0) (d.V (.I (BK (F.I (.S (BU.c c)))) (F.I (.S (BU.c c))))) I=I (.p d.next 0) (d.V (.I 2 (BU.c c))):=λ_=>B
 generalize d.V (.I 2 (BU.c c))=g at s z r
 have p:=P.AQ s
 have u:g.AA d.next 0=A (.n c.Cy):=AJ z 0
 have x:g.AA j 0=A m:=AJ ((p.N W).t T) 0
 have N:=X.ext p
 have J:=C4 N
 have y:=Gu (a:=e.I.l) (b:=1) (by omega) (by omega)
 have o:=O7 c.Cy 0 (e.I.l-1)
 refine⟨g,Bd B B ?_,p⟩
 show xx W9 189 [.S (BU.c c),.p j 0] d=A (.b (!(BY c.Cy 0 (e.I.l-1)&&Au (((e.I[c.Cy.n]?).g AK).Ai=0))),g)
 rw[v4]
 cases n:BY c.Cy 0 (e.I.l-1)with
 |false=>rw[n]at o;simp only[↓r,↓Q,↓QV,↓QT,↓H u,↓H x,↓H J,↓H y,↓o.H B,QB]
 |true=>
  rw[n]at o;unfold BY at n;simp only[Aie,Ain]at n;let⟨h,q⟩:=Bo (b:=e.I) (a:=c.Cy.n) (by omega)
  let⟨v,t⟩:=Dm (f:=M.c) (w:=2) (λ_=>B) N q
  have U:AZ 2 [m,.n c.Cy]=A (.p v (c.Cy.n*2)):=by have:=t.ia;rwa[show c.Cy.n=c.Cy by omega]at this
  have Y:g.AU v (c.Cy.n*2) 2=A (M.c h):=t.AU (f:=M.c) (λ_=>B) q;have E:=VU h;rw[q];show _=A (F.b (!(L&&Au (h.Ai=0))),g);generalize Au (h.Ai=0)=S at E⊢;cases S<;>simp only[↓r,↓Q,↓QV,↓QT,↓H u,↓H x,↓H J,↓H y,↓o.H B,QB,↓H U,↓H Y,↓E.H B]
def Em(a:G)(c:Ce){e:Aa}{d:G}(g:a.next=e)(f:a.V c=d)(b:F->G->R):bl (.p a.next 0) (a.V c) b=b (.p e 0) d:=by subst g f;rfl
def tp(b:AG)(xd:b.I.l<=100/\b.AV.l<=6000)(xe:AF c e M.c 2 b.I)(xf:AF c g BU.c 2 b.AV)(a:K)(xa:0<=a/\a<=1000000000):∃E,W9 (Ar 148) [.S [e,g],.n a] c=A (.b (OH a b),E)/\AR c E:=by
 have j:AR c (c.V (.I 2 [e,g])):=AR.V _ _
 have q:(c.V (.I 2 [e,g])).N _=A (.I 2 [e,g]):=I8 _ _
 have n:Lv (c.V (.I 2 [e,g])) c.next:=P
 generalize Y:c.V _=d at j q n
 generalize xb:c.next=z at q n
 have T:∀(k:F->G->R),bl _ (c.V (.I (BK (F.I (.S [e,g]))) (F.I (.S [e,g])))) k=k (.p z 0) d:=Em c (.I 2 [e,g]) xb Y
 have h:AR d (d.V (.I 1 [.n a])):=AR.V _ _
 have s:(d.V (.I 1 [.n a])).N d.next=A (.I 1 [.n a]):=I8 _ _
 have x:Lv (d.V (.I 1 [.n a])) d.next:=GD _ _
 generalize Z:d.V (.I 1 [.n a])=o at h s x
 generalize xc:d.next=xh at s x
 have U:∀(k:F->G->R),bl (.p d.next 0) (d.V (.I (BK (F.I (.n a))) (F.I (.n a)))) k=k (.p xh 0) o:=Em d (.I 1 [.n a]) xc Z
 have r:=(h.N n).t q
 have v:=h.lv n
 have y:=(xe.ext j).ext h
 have S:=C4 y
 have I:o.AA z 0=A e:=AJ r 0
 have N:¬(b.I.l:K)>100:=by omega
 let⟨p,l,i⟩:=NX Vt T8 (Jt.CC (c:=M.c) (a:=2) (λ_=>B) y) (of xa s x b.I) (by omega) o (λxg t=>⟨B,t⟩)
 rw[Rz (λxj=>JG xj a)]at l
 let⟨W,u,V⟩:=NX pf vb (Jt.CC (c:=BU.c) (a:=2) (λ_=>B) (((xf.ext j).ext h).ext i)) (og xd.1 ((i.N v).t r) (i.lv v) (y.ext i) b.AV) (by omega) p (λxg t=>⟨B,t⟩)
 rw[Rz (λm:BU=>BY m.Cy 0 (b.I.l-1)&&Au (((b.I[m.Cy.n]?).g AK).Ai=0))]at u
 unfold OH
 cases J:b.I.all (λxi=>JG xi a)with
 |false=>rw[J]at l;refine⟨p,Bd B B ?_,j.AQ (h.AQ i)⟩;rw[cU.1];simp only[↓T,↓U,↓Q,↓QT,Aic,↓H I,↓H S,N,↓H l,QB]
 |true=>rw[J]at l;generalize(b.AV.all λm=>BY m.Cy 0 (b.I.l-1)&&Au (((b.I[m.Cy.n]?).g AK).Ai=0))=X at u;refine⟨W,Bd B B ?_,j.AQ (h.AQ (i.AQ V))⟩;rw[cU.1];cases X<;>simp only[↓T,↓U,↓Q,↓QT,Aic,↓H I,↓H S,N,↓H l,QB,cU.2,↓H (AJ ((i.N v).t r) 1:p.AA z 1=A g),↓H u]
def ec:∀(d:C _)(a:D),BZ (d.t a)<=BZ d
 |[],a=>by simp
 |c::b,0=>AiO _
 |c::b,a+1=>by show c.AV.l+BZ (b.t a)<=c.AV.l+BZ b;have:=ec b a;omega
structure FF(b:C AG)(i:C BM)(e:Aa)(d c:F)(f g:D->F)(a:G):Prop where
 M:Dn a d f g b
 ot:AF a c BM.c 3 i
 gx:a.N e=A (.I 3 [d,.n (BZ b:K),c])
 lx:Lv a e
 nx:¬Ck d f g b.l e
 tx:AE c e
 tm:∀h,¬AE c h->¬Ck d f g b.l h
def Uv(b c d a:F):DJ 0 [a] [b,c,d]=[a,c,d]/\DJ 1 [a] [b,c,d]=[b,a,d]/\DJ 2 [a] [b,c,d]=[b,c,a]:=⟨B,B,B⟩
structure Vb(i:C AG)(h:G)(e:Aa)(c:D)(d:F)(f g:D->F)(b:G):Prop where
 M:Dn b d f g (i.t c)
 gx:b.N e=A (.I 3 [d,.n (BZ (i.t c):K),.sn])
 lx:Lv b e
 nx:¬Ck d f g c e
 BX:∀a,Lv h a->b.N a=h.N a/\Lv b a/\¬Ck d f g c a/\a≠e
def AeA{e:C AG}(xM:Gn e)(x5:No e=0){X:G}{J:F}{k j:D->F}(xk:Dn X J k j e){I g:Aa}(x2:X.N I=A (.I 1 [J]))(ye:Lv X I){c:D}{n:AG}(r:e[c]? =A n){l:F}{y S:D->F}{f:G}(h:Vb e X g c l y S f):∃s xY ys xI,jj W9 93 2 [.n e.l,J,.p I 0,.n c,.p g 0] f=jj W9 93 2 [.n e.l,J,.p I 0,.n (c+1:D),.p g 0] xI/\Vb e X g (c+1) s xY ys xI:=by
 have xK:c<e.l:=by grind
 have yD:=xM.1;have x8:=xM.at r;have xW:=Dx xK;have x6:OH e.l n=L/\BZ e<=6000:=by unfold No at x5;grind
 have xb:Dn f J k j e:=xk.Av λp xf _=>⟨(h.BX p xf).1,(h.BX p xf).2.1⟩;let⟨yz,ya,yq,_,_,_⟩:=xb.at xK
 have W:AR f (f.V (.I 2 [k c,j c])):=AR.V _ _;have xd:(f.V (.I 2 [k c,j c])).N f.next=A (.I 2 [k c,j c]):=P;have xp:Lv (f.V (.I 2 [k c,j c])) f.next:=GD _ _;have xS:Ct [k c,j c]=L:=by rw[EC];simp[(CS (xb.c c n r)).2,(CS (xb.w c n r)).2]
 have xt:A1 2 (f.V (.I 2 [.sn,.sn])) [.p f.next 0,.S [k c,j c]]=A (Ax,f.V (.I 2 [k c,j c])):=FL B xS;have yx:∀(xg:F->G->R),bl (.p f.next 0) (f.V (.I 2 [.sn,.sn])) xg=xg (.p f.next 0) (f.V (.I 2 [.sn,.sn])):=λ_=>B;have xQ:¬Lv f f.next:=FO _;generalize xf:f.next=p at xd xp xt xQ;generalize f.V (.I 2 [k c,j c])=w at W xd xp xt;have yv:g≠p:=λz=>xQ (z▸h.lx);have yB:=ed r;have yC:=ec e (c+1);have yf:=C4 (xb.w c n r);have xC:=GJ (a:=(BZ (e.t c))) (b:=n.AV.l) (by omega) (by omega);rw[show(BZ (e.t c))+n.AV.l=((BZ (e.t (c+1)):D):K) by omega]at xC;have xF:=(W.N h.lx).t h.gx;have yh:=W.lv h.lx;have xu:=G9 (d:=1) (a:=.n (BZ (e.t (c+1)))) xF (by omega) (by omega) B B;rw[(Uv _ _ _ _).2.1]at xu;have yt:w.AA g 1=A (.n (BZ (e.t c))):=AJ xF 1;have yo:w.AA p 1=A (j c):=AJ xd 1;have xq:∀d,d≠g->(w.set g (.I 3 [l,.n (BZ (e.t (c+1))),.sn])).N d=w.N d:=λd m=>by rw[AY,Ad m]
 have Y:(w.set g (.I 3 [l,.n (BZ (e.t (c+1))),.sn])).N g=A (.I 3 [l,.n (BZ (e.t (c+1))),.sn]):=by rw[AY,Af B]
 have xi:∀d,Lv (w.set g (.I 3 [l,.n (BZ (e.t (c+1))),.sn])) d=Lv w d:=P;generalize w.set g (.I 3 [l,.n (BZ (e.t (c+1))),.sn])=q at xu xq Y xi;have xj:∀d,Lv f d->d≠g->q.N d=f.N d/\Lv q d:=λd m x9=>⟨(xq d x9).t (W.N m),by rw[xi];exact W.lv m⟩;have xe:=(xq p (λz=>yv z.s)).t xd;have xh:Lv q p:=by rw[xi];exact xp
 have Z:Lv q g:=by rw[xi];exact yh
 have xl:Dn q J k j e:=xk.Av λd m _=>by have:=h.BX d m;exact⟨(xj d this.2.1 this.2.2.2).1.t this.1,(xj d this.2.1 this.2.2.2).2⟩
 have yu:q.AA g 1=A (.n (BZ (e.t (c+1)))):=AJ Y 1;have xX:¬(BZ (e.t (c+1)):K)>6000:=by omega
 have yn:q.AA I 0=A J:=by have:=h.BX I ye;exact AJ ((xj I this.2.1 this.2.2.2).1.t (this.1.t x2)) 0
 have xO:=C4 xk.o;rw[Aip]at xO;have yr:q.AU p 0 2=A [k c,j c]:=B2 xe;let⟨xn,xN,t⟩:=tp n x8 (xl.c c n r) (xl.w c n r) (e.l:K) (by omega)
 rw[x6.1]at xN;have xy:=xl.ext t;have yw:xn.AA g 0=A l:=AJ ((t.N Z).t Y) 0;have yp:xn.AA p 0=A (k c):=AJ ((t.N xh).t xe) 0;let⟨x,xJ,yb,xr,xa,x1⟩:=tq (xy.c c n r) (by omega)
 let⟨N,T,yc,xR,xx,xE⟩:=tr ((xy.ext xa).w c n r) (by omega)
 have xw:AR q T:=t.AQ (xa.AQ xx);have xG:=(xw.N Z).t Y;have xP:=xw.lv Z;have x0:BE [.sn,.sn] [(0,1),(1,1)] [x,N]=A (.S [x,N]):=by rcases xr with⟨rfl,_⟩|⟨_,_,rfl,_⟩<;>rcases xR with⟨rfl,_⟩|⟨_,_,rfl,_⟩<;>rfl
 have xL:(e.t c).l=c:=by grind
 have yj:=h.nx;rw[<-xL]at yj;have xD:∀d,Lv f d->AE x d/\AE N d:=λd m=>by
  have yF:Lv q d:=by grind
  exact⟨x1 d P,xE d P⟩
 have xm:∀{xv:F},(∀d,¬AE xv d->Ck l y S (e.t c).l d)->CF xv x/\CF xv N:=λxg=>⟨CF.of λd E=>(xD d (h.M.lv P)).1,CF.of λd E=>(xD d (h.M.lv P)).2⟩;have xB:=xm (xv:=l) λd E=>.i E;let⟨s,U,yd,xc,xZ,yy⟩:=(h.M.Av P:Dn T l y S (e.t c)).EK (xr.ext xx) xR (xE.LF xr:CF x N) xB.1 xB.2 (λV xo=>by have xz:=xm (xv:=y V) λd E=>.j ⟨V,xo,.i E⟩;have xA:=xm (xv:=S V) λd E=>.j ⟨V,xo,.j E⟩;exact⟨xz.1,xA.1,xz.2,xA.2⟩) (by omega)
 rw[xL,Gv r]at xc;have yl:=FC.1 h.nx;have xs:=G9 (d:=0) (a:=s) ((xZ.N xP yl.1).t xG) (by omega) (by omega) (CS xc.o).1 (CS xc.o).2;rw[(Uv _ _ _ _).1]at xs;have ym:∀d,d≠g->(U.set g (.I 3 [s,.n (BZ (e.t (c+1)):K),.sn])).N d=U.N d:=λd m=>by rw[AY,Ad m]
 have xH:(U.set g (.I 3 [s,.n (BZ (e.t (c+1)):K),.sn])).N g=A (.I 3 [s,.n (BZ (e.t (c+1)):K),.sn]):=by rw[AY,Af B]
 have yg:∀d,Lv (U.set g (.I 3 [s,.n (BZ (e.t (c+1)):K),.sn])) d=Lv U d:=P;generalize U.set g (.I 3 [s,.n (BZ (e.t (c+1)):K),.sn])=x4 at xs ym xH yg;have yi:∀d,Lv f d->Lv T d->¬Ck l y S c d->¬Ck s (Cf y c x) (Cf S c N) (c+1) d:=λd m yE x7=>by
  have x3:=FC.1 x7;refine FC.2 ⟨P,λV xo=> ?_⟩;by_cases z:V=c;.subst z;rw[EH,EH];grind
  .rw[CQ z,CQ z];grind
 have yk:=yi g h.lx xP P;have yG:(e.t (c+1)).l=c+1:=by grind
 refine⟨s,Cf y c x,Cf S c N,x4,?_,?_⟩;.rw[Qz.2.2.2.1];simp only[↓Q,↓QT,Aic,xW,Qz.2.2.2.2.1,↓H ya,↓H yq,↓yx,xf,↓H xt,↓H yt,↓H yo,↓H yf,↓H xC,↓H xu,↓H yu,xX,↓H yr,↓H yn,↓H xO,↓H xN,QB,Qz.2.2.2.2.2.2,↓H yw,↓H yp,↓H yb,(Jd ((xa.N (t.lv Z)).t ((t.N Z).t Y)) B:BV .Dg [.p g 0] xJ l=L),↓MP,↓H (AJ ((xa.N (t.lv xh)).t ((t.N xh).t xe)) 1:xJ.AA p 1=A (j c)),(Jd ((t.N xh).t xe) B:BV .Dg [.p p 1] xn (j c)=L),↓H yc,(Jd xG B:BV .Dg [.p g 0] T l=L),↓H x0,↓yd,↓H xs,Qz.2.2.2.2.2.1,↓H (BF (a:=c) (by omega))]
 .exact{
  M:=xc.Av P
  gx:=xH
  lx:=by grind
  nx:=yk
  BX:=λd m=>by
   let⟨yA,xT,xU,xV⟩:=h.BX d m
   have xg:=(P:∀d,Lv f d->d≠g->T.N d=f.N d/\Lv T d) d xT xV;have x3:=FC.1 xU;grind}
def h9{b:C AG}(V:Gn b)(xk:No b=0){d:F}{xs:D->F}(T:Dn c d xe xs b):∃e t q u y,W9 (Ar 93) [.S [d]] c=A (.AC [.p e 0,.n 0],y)/\FF b [] e t .sn q u y/\AR c y/\(∀g,Lv c g->g≠e/\¬Ck t q u b.l g):=by
 have xv:=V.1;have m:AR c (c.V (.I 1 [d])):=AR.V _ _;have v:(c.V (.I 1 [d])).N c.next=A (.I 1 [d]):=by grind
 have w:Lv (c.V (.I 1 [d])) c.next:=by grind
 generalize xi:c.V (.I 1 [d])=a at m v w;generalize xl:c.next=l at v w;have xt:∀(r:F->G->R),bl (.p c.next 0) (c.V (.I (BK (F.I (.S [d]))) (F.I (.S [d])))) r=r (.p l 0) a:=Em c (.I 1 [d]) xl xi;have xf:BE [.sn,.n 0,.sn] [] []=A (.S [.sn,.n 0,.sn]):=B;have o:AR a (a.V (.I 3 [.sn,.n 0,.sn])):=AR.V _ _;have J:(a.V (.I 3 [.sn,.n 0,.sn])).N a.next=A (.I 3 [.sn,.n 0,.sn]):=by grind
 have P:Lv (a.V (.I 3 [.sn,.n 0,.sn])) a.next:=by grind
 have X:¬Lv a a.next:=FO _;generalize xj:a.V (.I 3 [.sn,.n 0,.sn])=p at o J P;generalize xn:a.next=e at J P X;have xu:∀(r:F->G->R),bl (.p a.next 0) (a.V (.I (BK (F.I (.S [.sn,.n 0,.sn]))) (F.I (.S [.sn,.n 0,.sn])))) r=r (.p e 0) p:=Em a (.I 3 [.sn,.n 0,.sn]) xn xj;have xg:=(o.N w).t v;have xa:=(T.ext m).ext o;have W:=C4 xa.o;rw[Aip]at W;have xp:p.AA l 0=A d:=AJ xg 0;have xb:¬(b.l:K)>400:=by omega
 have xw:l≠e:=by grind
 have Z:Vb b a e 0 .sn (λ_=>.sn) (λ_=>.sn) p:={
  M:=Dn.nil _ _ _,gx:=J,lx:=P,nx:=FC.2 ⟨CM _,λk N=>by grind⟩
  BX:=λg j=>⟨o.N j,o.lv j,FC.2 ⟨CM _,λk N=>by grind⟩,λz=>X (z▸j)⟩}
 let⟨⟨t,q,u⟩,i,E,f⟩:=Ez (h:=b.l) (f:=λk (_:F×(D->F)×(D->F)) i=>jj W9 93 2 [.n (b.l:K),d,.p l 0,.n (k:K),.p e 0] i) (g:=λk x i=>Vb b a e k x.1 x.2.1 x.2.2 i)
  (λk x i N f=>by
   let⟨xx,xm⟩:=Bo N
   let⟨xq,xd,xr,xh,z,Y⟩:=AeA V xk (T.ext m) v w xm f
   exact⟨(xq,xd,xr),xh,z,Y⟩)
  (b:=(.sn,λ_=>.sn,λ_=>.sn)) (a:=p) Z
 have E:jj W9 93 2 [.n (b.l:K),d,.p l 0,.n 0,.p e 0] p=jj W9 93 2 [.n (b.l:K),d,.p l 0,.n (b.l:K),.p e 0] i:=E;have f:Vb b a e b.l t q u i:=f;have S:=f.M;have U:=f.gx;rw[HV]at S U;have xc:=Dz b.l;refine⟨e,t,q,u,i,Bd B B ?_,{M:=S,ot:=AF.sn i,gx:=U,lx:=f.lx,nx:=f.nx,tx:=CM _,tm:=λg xo=>A_ (CM g) xo},?_,?_⟩;.rw[Qz.1];simp only[↓xt,↓H xf,↓xu,↓Q,↓QT,Aic,↓H xp,↓H W,xb,Qz.2.1];rw[E,Qz.2.2.2.1];simp only[↓Q,↓QT,Aic,xc,Qz.2.2.1]
 .intro g j;have:=f.BX g (m.lv j);grind
 .intro g j;have:=f.BX g (m.lv j);grind
