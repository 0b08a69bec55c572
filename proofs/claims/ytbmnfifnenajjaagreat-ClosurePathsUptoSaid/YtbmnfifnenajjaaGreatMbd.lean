/- Part of the proof. -/
import Derived.Test.YtbmnfifnenajjaaGreatMbc
set_option linter.all false
noncomputable section
open Option renaming some->A,getD->Option.g,bind->Option.b
open _root_ renaming rfl->B,List->C,Nat->D,Int->K,if_neg->Ad,if_pos->Af,Bool->Ah,decide_eq_true->A0,decide_eq_false->A2,absurd->BF
open Bool renaming true->L,false->Aa
open Decidable renaming decide->Ao
open Nat renaming le_refl->CK
open List renaming length->List.l,map->List.m,take->List.t,drop->List.d,flatMap->List.f
open Go.IntKind renaming i64->Go.IntKind.n
open Array renaming toList->Array.l
open Eq renaming trans->Eq.t,symm->Eq.s
open Or renaming inl->Or.i,inr->Or.j
open Int renaming toNat->Int.n
namespace Go.Proofs.YtbmnfifnenajjaaGreat
open Go.Fg
variable{e:F}
def fE{a:G}{c:C AE}(f:Fz 3 a e (Z AE.c c))(d:N)(b:K):Fz 5 a (.AB [.S [e],.S (N.c d),.n b]) (.AB [.S (Bp c),.S (N.c d),.n b]):=by refine Fz.AB (Cw.cons (Fz.S (Cw.cons f (Cw.nil _ _))) (Cw.cons ?_ (Cw.cons ((Fz.im B).up (by omega)) (Cw.nil _ _))));exact(Fz.S (Cw.Oh B)).up (by omega)
def q5(b:C AE)(U:EW b)(a:N):AY 113 [.S (Bp b),.S (N.c a)] (.AB [.S (Bp (Er b a).1),.S (N.c (Er b a).2.1),.n (Er b a).2.2]):=by
 have s:G.Aq.next=.h:=B;have xd:(G.Aq.V (.I 1 (Bp b))).next=.o .h:=B
 have t:((G.Aq.V (.I 1 (Bp b))).V (.I 2 (N.c a))).next=.i .h:=B
 have u:(((G.Aq.V (.I 1 (Bp b))).V (.I 2 (N.c a))).V (.I 1 [.sn])).next=.o (.o .h):=B
 generalize l:(((G.Aq.V (.I 1 (Bp b))).V (.I 2 (N.c a))).V (.I 1 [.sn])).V (.I 2 [.i .u8 0,.n 0])=c;have r:c.M .h=A (.I 1 (Bp b)):=by grind
 have j:c.M (.o .h)=A (.I 2 (N.c a)):=by grind
 have E:c.M (.i .h)=A (.I 1 [.sn]):=by grind
 have F:c.M (.o (.o .h))=A (.I 2 [.i .u8 0,.n 0]):=by grind
 have X:Lv c .h:=by grind
 have Y:Lv c (.o .h):=by grind
 have Z:Lv c (.i .h):=by grind
 have xa:Lv c (.o (.o .h)):=by grind
 have I:(T.i .h)≠.o (.o .h):=by grind
 have W:BU (Bp b)=L:=B;have q:=λm=>Sm E F I B W m;have v:∀m o,(∃y,xx W9 113 [.S (Bp b),.S (N.c a)] G.Aq=A (.AB [.S (Bp b),.S (N.c m),.n o],y))->AY 113 [.S (Bp b),.S (N.c a)] (.AB [.S (Bp b),.S (N.c m),.n o]):=λm o k=>by
  let⟨y,k⟩:=k
  exact EV B B k B
 have xe:=Ay j 0;have xf:=Ay j 1;have z:=Ay r 0;have J:=BB r;have xj:=BB j;have xb:=Mo r;have xc:Bv (.ld 2) [.p (.o .h) 0] (c.set (.i .h) (.I 1 (Bp b))) (.S (N.c a))=L:=Mo (by rw[AN,Ad (by grind)];grind);have P:=Nd 4;have R:=Nd 5;have i:=Lz a.n 0 100;have p:=Ch .n b.l 400;unfold Er;by_cases w:a.Ak=5
 .rw[Af w];refine v a 0 ?_;let⟨e,f,g,h⟩:=q a
  rw[SP.1];simp only[↓GS,↓Q,↓QD,xd,t,u];rw[l];simp only[w,H e,xc,H f,H g,H h];exact⟨_,B⟩
 rw[Ad w];by_cases d:a.Ak=1
 .rw[Ad (λk=>k d)]
  cases n:BK a.n 0 100 with
  |false=>
   rw[n]at i;rw[Af B];refine v (Ed 4) 0 ?_;let⟨e,f,g,h⟩:=q (Ed 4)
   rw[SP.1];simp only[↓GS,↓Q,↓QD,s,t,u];rw[l];simp only[d,i.H B,H J,P.H B,xb,H e,H f,H g,H h];exact⟨_,B⟩
  |true=>
   rw[n]at i;rw[Ad (by grind)];have S:0<=a.n/\a.n<=100:=by unfold BK at n;simp only[AdO,AdV]at n;grind
   by_cases x:b.l=400
   .rw[Af x];rw[A0 (by omega)]at p;refine v AO 5 ?_;let⟨e,f,g,h⟩:=q AO
    rw[SP.1];simp only[↓GS,↓Q,↓QD,s,t,u];rw[l];simp only[Q,d,i.H B,H z,H p,H J,QE,H e,H f,H g,H h];exact⟨_,B⟩
   .rw[Ad x];rw[A2 (by omega)]at p;have V:a=EA a.n.n:=by obtain⟨xh,xi⟩:=a;simp only at d S⊢;subst d;unfold EA;congr 1;omega
    rw[V]at j;let⟨xk,xg,xl,y,o,M⟩:=wM b U a.n.n (by omega) x r j E F X Y Z xa I
    refine Fz.Oc B B ?_ (fE M.fz _ _) (by omega);rw[SP.1];simp only[↓GS,↓Q,↓QD,s];rw[l];simp only[Q,QT,AdM,Int.reduceEq,d,i.H B,H z,H p];grind
 .rw[Af d];refine v (Ed 5) 0 ?_;let⟨e,f,g,h⟩:=q (Ed 5)
  rw[SP.1];simp only[↓GS,↓Q,↓QD,s,t,u];rw[l];simp only[QY,R.H B, *];grind
variable{a b:D}
def Yk{c:C _}{f e:AE}(h:c[a]? =A f){d:AE}(g:(c.set a e)[b]? =A d):(b=a/\d=e)\/(b≠a/\c[b]? =A d):=by grind
variable{g:G}
def CY.Ep{R:F}{q S:D->F}{s:C AE}(a:CY g R q S s){d h:D}{e:AE}{x:N}(p:s[d]? =A e)(u:e.I[h]? =A x)(t:N):
  ∃f i,AR 2 [q d,.n h]=A (.p f (h*2))/\g.AL f (h*2) 2=A (N.c x)/\g.Ap f (h*2)=A (.i .u8 x.Ak)/\AX 2 g [.p f (h*2),.S (N.c t)]=A (AC,i)/\CY i R q S (s.set d ⟨e.I.set h t,e.AV⟩)/\
   (∀b,b≠f->i.M b=g.M b)/\(∀b,Lv i b=Lv g b)/\¬As (q d) f:=by
 have r:=(AdN.1 p).1
 let⟨f,m⟩:=CD (w:=2) (λ_=>B) (a.c d e p) u
 let⟨y,Z⟩:=m.set (w:=2) (λ_=>B) (a.c d e p) u (g:=.S (N.c t)) B B
 generalize W:g.set f (.I (e.I.l*2) ((e.I.set h t).f N.c))=i at y Z
 have Q:∀b,b≠f->i.M b=g.M b:=λb I=>by rw[<-W,AN,Ad I]
 have v:∀{T:Type}{E:T->C F}{M:D}{l:F}{J:C T},Aw g l E M J->Cn l (q d)->Aw i l E M J:=λY U=>Y.Ar λb I X=>⟨Q b (λV=>by subst V;exact m.nb (U.r X)),by grind⟩
 refine⟨f,i,m.ia,m.AL (w:=2) (λ_=>B) u,m.Ap (w:=2) (λ_=>B) u (b:=0) (by omega),y,?_,Q,P,m.nb⟩
 have n:(s.set d ⟨e.I.set h t,e.AV⟩).l=s.l:=by grind
 exact{
  o:=by rw[n];exact v a.o (a.vc d r)
  c:=λj l k=>by
   rcases Yk p k with⟨rfl,rfl⟩|⟨H,k⟩;.grind
   .exact v (a.c j l k) (a.dc j d P r H)
  w:=λj l k=>by
   rcases Yk p k with⟨rfl,rfl⟩|⟨H,k⟩;.exact v (a.w j e p) (a.dx j j r r).symm
   .exact v (a.w j l k) (a.dx d j r P).symm
  dc:=by rw[n];exact a.dc
  dw:=by rw[n];exact a.dw
  dx:=by rw[n];exact a.dx
  vc:=by rw[n];exact a.vc
  vw:=by rw[n];exact a.vw}
def vl{c b:D->F}{e:D}(h:a<e)(d:F):Dg (a*2+1) [d] ((List.range e).f (Hh c b))=(List.range e).f (Hh c (BW b a d)):=by
 let⟨l,g⟩:=Qt (OH c b) (F9 h)
 let⟨k,o⟩:=Qt (OH c (BW b a d)) (F9 h)
 rw[l,k,(W5 _ λm i=>⟨B,CE (by grind)⟩),(W5 _ λm i=>⟨B,CE (by
  let⟨q,p⟩:=Aff.1 i
  grind)⟩)]
 generalize((List.range e).t a).f (Hh c b)=j at g;generalize((List.range e).d _).f (Hh c b)=f;have:=Xz [d] (j++[c a]) (b a::f);have n:KD [d] (b a::f)=d::f:=B;rw[AdY,g,n]at this;unfold Hh;rw[Ec];grind
def CY.cq{R:G}{z u:F}{k i:D->F}{p:C AE}(d:CY R z k i p)(xg:HD (i a) R g){Q:AE}(M:p[a]? =A Q){n:C BJ}(xf:Aw g u BJ.c 2 n)(xk:Cn z u)(xj:∀b,b<p.l->Cn (k b) u)(xi:∀b,b<p.l->b≠a->Cn (i b) u):∃f q,AR 2 [z,.n a]=A (.p f (a*2))/\g.AL f (a*2) 2=A [k a,i a]/\g.Ap f (a*2)=A (k a)/\g.Ap f (a*2+1)=A (i a)/\AX 1 g [.p f (a*2+1),u]=A (AC,q)/\CY q z k (BW i a u) (p.set a ⟨Q.I,n⟩)/\(∀e,e≠f->q.M e=g.M e)/\(∀e,Lv q e=Lv g e)/\¬As z f:=by
 have s:=(AdN.1 M).1;have N:∀{I:Type}{E:I->C F}{t:D}{j:F}{n:C I},Aw R j E t n->Cn j (i a)->Aw g j E t n:=λX S=>X.Ar λe J V=>xg e J (S.r V);have xd:=N d.o (d.vw a s);let⟨f,r⟩:=CD (OH k i) xd (F9 s)
 have xb:=r.M;rw[Ad0]at xb;have T:=Gx (d:=a*2+1) xb (by omega) (by omega) (Cr xf).1 (Cr xf).2;rw[vl s]at T;generalize xa:g.set f (.I (p.l*2) ((List.range p.l).f (Hh k (BW i a u))))=q at T;have xe:∀e,e≠f->q.M e=g.M e:=λe J=>by rw[<-xa,AN,Ad J]
 have W:∀{I:Type}{E:I->C F}{t:D}{j:F}{n:C I},Aw g j E t n->Cn z j->Aw q j E t n:=λX S=>X.Ar λe J V=>⟨xe e (λZ=>by subst Z;exact V (S.r r.nb)),by grind⟩;have x:(p.set a ⟨Q.I,n⟩).l=p.l:=by grind
 refine⟨f,q,r.ia,r.AL (OH k i) P,r.Ap (OH k i) P (b:=0) (by omega),r.Ap (OH k i) P (by omega),T,?_,xe,P,r.nb⟩;exact{
  o:=by
   rw[x];rcases xd with⟨rfl,l⟩|⟨Y,xh,xc,m,xl,xm⟩;.grind
   .have:f=Y:=by
     by_cases Z:f=Y
     .grind
     .exfalso;exact r.nb (by rw[xc];exact EN P)
    subst this
    exact .j ⟨f,xh,xc,m,by rw[<-xa,AN,Af B,Ad0],by grind⟩
  c:=λb j l=>by
   rcases Yk M l with⟨rfl,rfl⟩|⟨h,l⟩;.exact W (N (d.c b Q M) (d.dx b b s s)) (d.vc b s)
   .have H:=(AdN.1 l).1;exact W (N (d.c b j l) (d.dx b a H s)) (d.vc b H)
  w:=λb j l=>by
   rcases Yk M l with⟨rfl,rfl⟩|⟨h,l⟩;.rw[Ec];grind
   .have H:=(AdN.1 l).1;rw[CE h];exact W (N (d.w b j l) (d.dw b a H s h)) (d.vw b H)
  dc:=by rw[x];exact d.dc
  dw:=λb y h v t=>by
   rw[x]at h v;by_cases U:b=a;.subst U;rw[Ec,CE Om];exact(xi y v Om).symm
   .by_cases m:y=a;.subst m;rw[CE U,Ec];grind
    .rw[CE U,CE m];exact d.dw b y h v t
  dx:=λb y h v=>by
   rw[x]at h v;by_cases m:y=a;.subst m;rw[Ec];grind
   .rw[CE m];exact d.dx b y h v
  vc:=by rw[x];exact d.vc
  vw:=λb h=>by
   rw[x]at h;by_cases m:b=a;.subst m;rw[Ec];grind
   .rw[CE m];exact d.vw b h}
def CY.dk{e:G}{p:F}{q h:D->F}{m:C AE}(d:CY e p q h m){n:AE}(u:m[a]? =A n)(xo:n.AV.l<1000000)(s:BJ):
  ∃g l i j,(∀(I:F×G->R),((Dq 1 2 e.next [.S (BJ.c s)]).b λQ=>(DN 2 16 (G.V e Q.1) [h a,Q.2]).b I)=I (g,i))/\
   AR 2 [p,.n a]=A (.p l (a*2))/\e.Ap l (a*2+1)=A (h a)/\AX 1 i [.p l (a*2+1),g]=A (AC,j)/\
   CY j p q (BW h a g) (m.set a ⟨n.I,n.AV++[s]⟩)/\(∀b,Lv e b->¬B8 p q h m.l b->i.M b=e.M b/\Lv i b/\j.M b=e.M b/\Lv j b/\¬B8 p q (BW h a g) m.l b):=by
 have r:=(AdN.1 u).1
 let⟨g,i,xa,xc,N,xd⟩:=FJ (w:=2) (b:=s) (o:=.S (BJ.c s)) (h:=16) (λ_=>B) B B (d.w a n u) (DG (by omega))
 have t:∀{S:Type}{U:S->C F}{z:D}{H:F}{xb:C S},Aw e H U z xb->Cn H (h a)->Cn H g:=λxr xe=>Cn.of P
 let⟨l,j,V,xf,xg,xh,W,T,xs,xp,xq⟩:=d.cq N u xc (t d.o (d.vw a r)) (λf k=>by
  let⟨E,v⟩:=Bb k
  exact t (d.c f E v) (d.dx f a k r)) (λf k z=>by
  let⟨E,v⟩:=Bb k
  exact t (d.w f E v) (d.dw f a k r z))
 let⟨J,xi,xj,xk,X,xl⟩:=d.at r
 have:J=l:=by grind
 subst this
 refine⟨g,J,i,j,xa,V,X,W,T,λb Z Y=> ?_⟩
 have xm:=E_.1 Y
 have xn:=N b Z P
 refine⟨P,P,P,by grind,E_.2 ⟨P,λf k=> ?_⟩⟩
 by_cases M:f=a
 .subst M;rw[Ec];grind
 .rw[CE M];grind
variable{h i:T}
def wN(f:C AE)(I:EW f){e:D}{w:AE}(F:f[e]? =A w)(xo xf k l:K){u g o:T}{a:G}(X:a.M u=A (.I 1 (Bp f)))(z:a.M g=A (.I 2 (N.c ⟨xo,e⟩)))(Y:a.M o=A (.I 2 (N.c ⟨xf,k⟩)))(Z:a.M h=A (.I 1 [.sn]))(xa:a.M i=A (.I 2 [.i .u8 0,.n 0]))(xB:Lv a u)(J:Lv a g)(xj:Lv a o)(xk:Lv a h)(xl:Lv a i)(xm:h≠i):∃c m p E,jj W9 115 1 [.p u 0,.p g 0,.p o 0,.n l,.p h 0,.p i 0] a=A (.AB [.S [c],.S (N.c AO),.n 0],E)/\CY E c m p (f.set e ⟨w.I,w.AV++[⟨k,l⟩]⟩):=by
 have xv:=(I.at F).2;let⟨c,m,p,d,xq,s,xp,xs⟩:=Z_ f I a
 have x:BU [c]=L:=by rw[DJ];simp[(Cr s.o).2]
 have S:AX 1 (d.V (.I 1 [.sn])) [.p d.next 0,.S [c]]=A (AC,d.V (.I 1 [c])):=ET B x;generalize xc:d.V (.I 1 [c])=j at S;have V:AH d j:=by rw[<-xc];exact AH.V _ _
 have n:j.M d.next=A (.I 1 [c]):=by grind
 have M:Lv j d.next:=by grind
 generalize xe:d.next=v at S n M;have xn:¬Lv d v:=by rw[<-xe];exact EX _
 let⟨U,y,q,r,xx,xw,xC,xD,W,xi⟩:=(s.ext V).dk F (by omega) ⟨k,l⟩
 let⟨xg,xy,xh,xz,xA⟩:=xi v M (λxb=>xn (s.lv xb))
 have R:∀b,Lv a b->Lv j b/\j.M b=a.M b:=by grind
 have t:∀b,Lv a b->q.M b=a.M b/\r.M b=a.M b/\Lv r b/\¬B8 c m (BW p e U) f.l b:=by grind
 have xr:Cb [(.n 0),(.n 0)] [(0,1),(1,1)] [.n k,.n l]=A (.S (BJ.c ⟨k,l⟩)):=B;let⟨xE,xF,xG,xH⟩:=Sm ((t h xk).2.1.t Z) ((t i xl).2.1.t xa) xm B x AO
 have xt:Bl 1 [.p y (e*2)]=A (.p y (e*2+1)):=by rw[EG]
 refine⟨c,m,BW p e U,(r.set h (.I 1 [c])).set i (.I 2 (N.c AO)),?_,W.Ar λb xu xd=>⟨?_,by grind⟩⟩;.rw[KB.2.2.2];simp only[Q,H (BB X),H (Ay n 0),H (Ay ((R g J).2.t z) 1),H (Ay ((R o xj).2.t Y) 1),(Ij ((t g J).1.t z) B:Bv .Cq [.p g 1] q (.n e)=L),(Ij (xg.t n) B:Bv .Cq [.p v 0] q c=L),H (BB (xh.t n)),QE,ZR, *];rfl
 .rw[Aed]at xd;rw[AN,Ad P,AN,Ad P]
def O8(b:C AE)(c a:N):N:=match Iq b c.n with|some d=>(d.I[a.n.n]?).g AO|none=>AO
def Ke(a:C AE)(b:K)(c:AE->AE):C AE:=match Iq a b with|some d=>a.set b.n (c d)|none=>a
def Eb(a:C AE)(b c:N)(e:K):C AE×N×K:=
 if b.Ak=5 then(a,b,0)
 else if c.Ak=5 then(a,c,0)
 else if b.Ak=3 then(a,Ed 3,0)
 else if b.Ak≠4\/c.Ak≠1 then(a,Ed 5,0)
 else if G0 a b c=Aa then(a,Ed 3,0)
 else if(O8 a b c).Ak≠0 then(a,O8 a b c,0)
 else if 6000<=BH a then(a,AO,5)
 else(Ke a b.n (λd=>⟨d.I,d.AV++[⟨c.n,e⟩]⟩),AO,0)
variable{d:C AE}
def Sw{a c:N}(r:Kd d a)(g:G0 d a c=L):∃(e m:D)(b:AE)(f:N),a.n=e/\d[e]? =A b/\c.n=m/\b.I[m]? =A f/\O8 d a c=f/\a.Ak=4/\c.Ak=1/\Iq d a.n=A b:=by
 unfold G0 at g;simp only[AdO,AdV]at g;let⟨j,n,h⟩:=g
 let⟨b,k⟩:=r j
 let⟨e,o,q⟩:=Mt k
 have p:Sb d a.n=b.I.l:=by unfold Sb;grind
 rw[p]at h;unfold BK at h;simp only[AdO,AdV]at h;let⟨f,s⟩:=Bb (b:=b.I) (a:=c.n.n) (by omega)
 refine⟨e,c.n.n,b,f,o,q,by omega,s,?_,j,n,k⟩;unfold O8;grind
def q7(a:C AE)(X:EW a)(c e:N)(h:K)(xJ:Kd a c):AY 115 [.S (Bp a),.S (N.c c),.S (N.c e),.n h] (.AB [.S (Bp (Eb a c e h).1),.S (N.c (Eb a c e h).2.1),.n (Eb a c e h).2.2]):=by
 have xV:=X.1;have j:G.Aq.next=.h:=B;have k:(G.Aq.V (.I 1 (Bp a))).next=.o .h:=B
 have m:((G.Aq.V (.I 1 (Bp a))).V (.I 2 (N.c c))).next=.i .h:=B
 have n:(((G.Aq.V (.I 1 (Bp a))).V (.I 2 (N.c c))).V (.I 2 (N.c e))).next=.o (.o .h):=B
 have o:((((G.Aq.V (.I 1 (Bp a))).V (.I 2 (N.c c))).V (.I 2 (N.c e))).V (.I 1 [.sn])).next=.i (.o .h):=B
 generalize i:((((G.Aq.V (.I 1 (Bp a))).V (.I 2 (N.c c))).V (.I 2 (N.c e))).V (.I 1 [.sn])).V (.I 2 [.i .u8 0,.n 0])=b;have I:b.M .h=A (.I 1 (Bp a)):=by grind
 have x:b.M (.o .h)=A (.I 2 (N.c c)):=by grind
 have V:b.M (.i .h)=A (.I 2 (N.c e)):=by grind
 have xi:b.M (.o (.o .h))=A (.I 1 [.sn]):=by grind
 have xj:b.M (.i (.o .h))=A (.I 2 [.i .u8 0,.n 0]):=by grind
 have xo:Lv b .h:=by grind
 have xS:Lv b (.o .h):=by grind
 have xT:Lv b (.i .h):=by grind
 have xp:Lv b (.o (.o .h)):=by grind
 have xq:Lv b (.i (.o .h)):=by grind
 have Y:(T.o (.o .h))≠.i (.o .h):=by grind
 have w:=λh=>Sm xi xj Y (a:=Bp a) B B h;have t:∀(M:N)(z:K),(∃W,xx W9 115 [.S (Bp a),.S (N.c c),.S (N.c e),.n h] G.Aq=A (.AB [.S (Bp a),.S (N.c M),.n z],W))->AY 115 [.S (Bp a),.S (N.c c),.S (N.c e),.n h] (.AB [.S (Bp a),.S (N.c M),.n z]):=λM z J=>by
  let⟨W,J⟩:=J
  exact EV B B J B
 have xb:b.Ap (.o .h) 1=A (.n c.n):=Ay x 1;have xd:b.Ap (.i .h) 0=A (.i .u8 e.Ak):=Ay V 0;have xe:b.Ap (.i .h) 1=A (.n e.n):=Ay V 1;have xc:b.Ap .h 0=A (Z AE.c a):=Ay I 0;have xs:b.AL .h 0 1=A (Bp a):=BB I;have xt:b.AL (.o .h) 0 2=A (N.c c):=BB x;have xr:b.AL (.i .h) 0 2=A (N.c e):=BB V;have xX:Bv (.ld 1) [.p .h 0] b (.S (Bp a))=L:=Mo I;have xY:Bv (.ld 2) [.p (.o .h) 0] (b.set (.o (.o .h)) (.I 1 (Bp a))) (.S (N.c c))=L:=Mo (by rw[AN,Ad (by grind)];grind);have xW:Bv (.ld 2) [.p (.i .h) 0] (b.set (.o (.o .h)) (.I 1 (Bp a))) (.S (N.c e))=L:=Mo (by rw[AN,Ad (by grind)];grind);have xA:=Nd 3;have xB:=Nd 5;have y:=fK a X c e xJ;unfold Eb;by_cases xC:c.Ak=5
 .rw[Af xC];refine t c 0 ?_;let⟨p,q,r,s⟩:=w c
  rw[KB.1];simp only[↓GS,↓Q,↓QD,j,k,m,n,o];rw[i];simp only[QY, *];grind
 rw[Ad xC];by_cases xD:e.Ak=5
 .rw[Af xD];refine t e 0 ?_;let⟨p,q,r,s⟩:=w e
  rw[KB.1];simp only[↓GS,↓Q,↓QD,j,k,m,n,o];rw[i];simp only[QY, *];grind
 rw[Ad xD];by_cases xE:c.Ak=3
 .rw[Af xE];refine t (Ed 3) 0 ?_;let⟨p,q,r,s⟩:=w (Ed 3)
  rw[KB.1];simp only[↓GS,↓Q,↓QD,j,k,m,n,o];rw[i];simp only[QY,Int.reduceEq,xA.H B, *];grind
 rw[Ad xE];by_cases xf:c.Ak=4
 .by_cases xg:e.Ak=1
  .rw[Ad (by grind)]
   cases xh:G0 a c e with
   |false=>
    rw[xh]at y;rw[Af B];refine t (Ed 3) 0 ?_;let⟨p,q,r,s⟩:=w (Ed 3)
    rw[KB.1];simp only[↓GS,↓Q,↓QD,j,k,m,n,o];rw[i];simp only[QY,Int.reduceEq,y.H B,QB,xA.H B, *];grind
   |true=>
    rw[xh]at y;rw[Ad (by grind)];let⟨xz,xn,v,g,xk,xI,xN,xR,xM,_,_,xQ⟩:=Sw xJ xh
    have xP:(Ke a c.n λv=>⟨v.I,v.AV++[⟨e.n,h⟩]⟩)=a.set xz ⟨v.I,v.AV++[⟨e.n,h⟩]⟩:=by unfold Ke;rw[xQ];simp only[];rw[xk];rfl
    rw[xM,xP];have xm:AR 2 [Z N.c v.I,.n e.n]=A (.pi (N.c g)):=by rw[xN];exact HZ xR
    have xl:AR 2 [Z AE.c a,.n c.n]=A (.pi (AE.c v)):=by rw[xk];exact M2 xI
    have f:AH b (b.V (.I 2 (N.c g))):=AH.V _ _;generalize xL:b.V (.I 2 (N.c g))=u at f;have xH:u.M b.next=A (.I 2 (N.c g)):=by grind
    have xZ:Lv u b.next:=by grind
    have xw:∀(xn:F->G->R),bl (.p b.next 0) (b.V (.I 2 [.i .u8 0,.n 0])) xn=xn (.p b.next 0) (b.V (.I 2 [.i .u8 0,.n 0])):=λ_=>B;have xu:AX 2 (b.V (.I 2 [.i .u8 0,.n 0])) [.p b.next 0,.S (N.c g)]=A (AC,u):=by rw[<-xL];exact ET B B
    have xv:u.Ap b.next 0=A (.i .u8 g.Ak):=Ay xH 0;have xa:u.AL .h 0 1=A (Bp a):=BB ((f.M xo).t I);have E:=DW .u8 g.Ak 0;by_cases S:g.Ak=0
    .rw[A0 S]at E;rw[Ad (λJ=>J S)];have xG:=pp a X;have U:=JW .n (BH a) 6000;by_cases xF:6000<=BH a
     .rw[A0 (by omega)]at U;rw[Af xF];refine t AO 5 ?_;let⟨p,q,r,s⟩:=Sm ((f.M xp).t xi) ((f.M xq).t xj) Y (a:=Bp a) B B AO
      rw[KB.1];simp only[↓GS,↓Q,↓QD,j,k,m,n,o];rw[i];simp only[QY,Int.reduceEq,x,xd,xf,xg,xs,xt,xr,y.H B,QB,KB.2.1,xc,xb,xl,xe,xm,xw,xu,xv,E,KB.2.2.1,xa,xG.H B,U,QE,p,q,r,s];grind
     .rw[A2 (by omega)]at U;rw[Ad xF];have xy:=(f.M xS).t x;have xO:c=⟨c.Ak,xz⟩:=by rw[<-xk]
      rw[xO]at xy;let⟨M,xU,x0,W,z,xK⟩:=wN a X xI c.Ak e.Ak e.n h ((f.M xo).t I) xy ((f.M xT).t V) P P (f.lv xo) P P (f.lv xp) (f.lv xq) Y
      refine Fz.Oc B B (f:=.AB [.S [M],.S (N.c AO),.n 0]) (d:=W) (c:=5) ?_ (fE xK.fz _ _) (by omega);rw[KB.1];simp only[↓GS,↓Q,↓QD,j,k,m,n,o];rw[i];simp only[QY,Int.reduceEq,x,xd,xf,xg,xs,xt,xr,y.H B,QB,KB.2.1,xc,xb,xl,xe,xm,xw,xu,xv,E,KB.2.2.1,xa,xG.H B,U];grind
    .rw[A2 S]at E;rw[Af S];refine t g 0 ?_;let⟨p,q,r,s⟩:=Sm ((f.M xp).t xi) ((f.M xq).t xj) Y (a:=Bp a) B B g
     rw[KB.1];simp only[↓GS,↓Q,↓QD,j,k,m,n,o];rw[i];simp only[Q,QD,QT,AdM,Int.reduceEq,H x,H xd,xf,xg,H xs,H xt,H xr,y.H B,QB,KB.2.1,H xc,H xb,H xl,H xe,H xm,xw,H xu,H xv,H E,H xa,H (BB xH:u.AL b.next 0 2=A (N.c g)),H p,(Mo (by rw[AN,Ad (λz=>by grind)];grind):Bv (.ld 2) [.p b.next 0] (u.set (.o (.o .h)) (.I 1 (Bp a))) (.S (N.c g))=L),Lq,H q,H r,H s]
     grind
  .rw[Af Om];refine t (Ed 5) 0 ?_;let⟨p,q,r,s⟩:=w (Ed 5)
   rw[KB.1];simp only[↓GS,↓Q,↓QD,j,k,m,n,o];rw[i];simp only[QY,Int.reduceEq,xB.H B, *];grind
 .rw[Af Om];refine t (Ed 5) 0 ?_;let⟨p,q,r,s⟩:=w (Ed 5)
  rw[KB.1];simp only[↓GS,↓Q,↓QD,j,k,m,n,o];rw[i];simp only[QY,Int.reduceEq,xB.H B, *];grind
def Cp{g:Type}{c:G}{b:F}{d:g->C _}{f:D}{a:C _}(e:Aw c b d f a):DX [b]=A (.n a.l):=by rcases e with⟨rfl,rfl⟩|⟨h,i,rfl,_⟩<;>rfl
def Gg(a:K)(b:C BJ):C BJ:=b.filter λc=> !Ao (c.B0=a)
def G4(b:K)(c:N)(d:C BJ):C Bz:=(d.filter λa=>Ao (a.B0=b)).m λa=>⟨a.Ct,c⟩
def g_(a:K)(c:C _)(b:BJ):Gg a (c++[b])=Gg a c++(if b.B0=a then[]else[b]):=by unfold Gg;grind
def km(a:K)(b:N)(d:C _)(c:BJ):G4 a b (d++[c])=G4 a b d++(if c.B0=a then[⟨c.Ct,b⟩]else[]):=by unfold G4;grind
def g3(b:K)(a:C _):(Gg b a).l<=a.l:=List.length_filter_le _ _
def kk(b:K)(c:N)(a:C _):(G4 b c a).l<=a.l:=by unfold G4;grind
structure Yy(b:G)(g:K)(i:N)(h:C BJ)(f:D)(a:F×F)(c:G):Prop where
 ok:Aw c a.1 BJ.c 2 (Gg g (h.t f))
 ot:Aw c a.2 Bz.c 3 (G4 g i (h.t f))
 d:Cn a.1 a.2
 e:AH b c
 fk:Dx b a.1
 ft:Dx b a.2
def Aar{xa:C AE}{k n:D}{h:AE}(U:xa[k]? =A h)(xs:h.AV.l<=6000)(xi:K)(m:N){M P xb xc J:T}{p:G}{xd:F}{xf xn:D->F}(xe:CY p xd xf xn xa)(xt:AR 2 [xd,.n k]=A (.p J (k*2)))(xg:p.M M=A (.I 2 (N.c ⟨xi,n⟩)))(xh:p.M P=A (.I 2 (N.c m)))(xk:Lv p M)(xl:Lv p P){g:D}(Z:g<h.AV.l){I:F×F}{S:G}(a:Yy p n m h.AV g I S):∃W r,jj W9 170 2 [.p M 0,.p P 0,.n g,.p J (k*2),I.1,.p xc 0,I.2,.p xb 0] S=jj W9 170 2 [.p M 0,.p P 0,.n (g+1:D),.p J (k*2),W.1,.p xc 0,W.2,.p xb 0] r/\Yy p n m h.AV (g+1) W r:=by
 let⟨j,E⟩:=Bb Z
 have Q:=xe.ext a.e;let⟨R,xu,_,_,xy,_⟩:=Q.at (AdN.1 U).1
 have:R=J:=by grind
 subst this;let⟨u,t⟩:=CD (w:=2) (λ_=>B) (Q.w k h U) E
 have xq:Bl 1 [.p R (k*2)]=A (.p R (k*2+1)):=B;have xr:Bl 0 [.p u (g*2)]=A (.p u (g*2)):=B;have xv:=Cp (Q.w k h U);have xo:=Cm Z;have xw:AM S [.p u (g*2)]=A (.n j.B0):=t.Ap (f:=BJ.c) (λ_=>B) E (b:=0) (by omega);have xx:=Ay ((a.e.M xk).t xg) 1;have xp:Cb [(.n 0),(.i .u8 0),(.n 0)] [(0,1),(1,2)] [.n j.Ct,.S (N.c m)]=A (.S (Bz.c ⟨j.Ct,m⟩)):=B;have v:=g_ n (h.AV.t g) j;have z:=km n m (h.AV.t g) j;rw[FL E]at v z;by_cases Y:j.B0=n
 .rw[Af Y]at v z;rw[Ad5]at v;have V:=kk n m (h.AV.t g);rw[Aef]at V;let⟨X,r,xj,xm,q,s⟩:=FJ (w:=3) (b:=⟨j.Ct,m⟩) (o:=.S (Bz.c ⟨j.Ct,m⟩)) (h:=24) (λ_=>B) B B a.ot (DG (by omega))
  refine⟨(I.1,X),r,?_,?_⟩;.rw[K4.2.2.2.2.1];simp only[QY,K4.2.2.2.2.2.1,H t.ia,H (B:Bl 1 [.p u (g*2)]=A (.p u (g*2+1))),H (t.Ap (f:=BJ.c) (λ_=>B) E (b:=1) (by omega)),H (BB ((a.e.M xl).t xh)),K4.2.2.2.2.2.2,H (Bh (a:=g) (by omega)), *]
  .exact{
   ok:=by rw[v];exact a.ok.Ar λc b l=>q c b (a.d.r l)
   ot:=by grind
   d:=Cn.of λc l=>s c (a.ok.Cz l) (a.d.r l)
   e:=λc b=>⟨(q.M (a.e.lv b) (a.ft c b)).t (a.e.M b),q.lv (a.e.lv b) (a.ft c b)⟩
   fk:=a.fk
   ft:=λc b=>s c (a.e.lv b) (a.ft c b)}
 .rw[Ad Y]at v z;rw[Ad5]at z;have V:=g3 n (h.AV.t g);rw[Aef]at V;let⟨X,r,xj,xm,q,s⟩:=FJ (w:=2) (b:=j) (o:=.S (BJ.c j)) (h:=16) (λ_=>B) B B a.ok (DG (by omega))
  refine⟨(X,I.2),r,?_,?_⟩;.rw[K4.2.2.2.2.1];simp only[QY,K4.2.2.2.2.2.1,H t.ia,H (t.AL (f:=BJ.c) (λ_=>B) E),K4.2.2.2.2.2.2,H (Bh (a:=g) (by omega)), *]
  .exact{
   ok:=by grind
   ot:=by rw[z];exact a.ot.Ar λc b l=>q c b (a.d.l l)
   d:=(Cn.of λc l=>s c (a.ot.Cz l) (a.d.l l)).symm
   e:=λc b=>⟨(q.M (a.e.lv b) (a.fk c b)).t (a.e.M b),q.lv (a.e.lv b) (a.fk c b)⟩
   fk:=λc b=>s c (a.e.lv b) (a.fk c b)
   ft:=a.ft}
def wJ(k:C AE)(xq:EW k){f o:D}{g:AE}{x5:N}(X:k[f]? =A g)(xR:g.I[o]? =A x5)(x2 xv:K)(p:N){xb xc y t:T}{c:G}(xK:c.M xb=A (.I 1 (Bp k)))(xL:c.M xc=A (.I 2 (N.c ⟨x2,f⟩)))(xM:c.M y=A (.I 2 (N.c ⟨xv,o⟩)))(xN:c.M t=A (.I 2 (N.c p)))(xO:c.M h=A (.I 1 [.sn]))(ya:Lv c xb)(xT:Lv c xc)(xU:Lv c y)(xz:Lv c t)(xA:Lv c h):∃b r u xE W,jj W9 170 5 [.p xb 0,.p xc 0,.p y 0,.p t 0,.p h 0] c=A (.AB [.S [b],xE,.n 0],W)/\CY W b r u (k.set f ⟨g.I.set o p,Gg o g.AV⟩)/\Aw W xE Bz.c 3 (G4 o p g.AV):=by
 have xo:=(AdN.1 X).1;let⟨b,r,u,l,xI,S,xF,xl⟩:=Z_ k xq c
 have xk:BU [b]=L:=by rw[DJ];simp[(Cr S.o).2]
 have xf:AX 1 (l.V (.I 1 [.sn])) [.p l.next 0,.S [b]]=A (AC,l.V (.I 1 [b])):=ET B xk;generalize xP:l.V (.I 1 [b])=q at xf;have xh:AH l q:=by rw[<-xP];exact AH.V _ _
 have V:q.M l.next=A (.I 1 [b]):=by grind
 have xa:Lv q l.next:=by grind
 generalize xs:l.next=z at xf V xa;have x0:¬Lv l z:=by rw[<-xs];exact EX _
 have xi:=S.ext xh;have xw:=λw=>x0 (S.lv w);let⟨xH,i,x3,yg,yh,x4,v,yb,xW,xZ⟩:=xi.Ep X xR p
 have x9:B8 b r u k.l xH:=.j ⟨f,xo,.i xZ⟩;have Y:(k.set f ⟨g.I.set o p,g.AV⟩)[f]? =A ⟨g.I.set o p,g.AV⟩:=by grind
 let⟨M,xu,_,x1,yc,xG⟩:=xi.at xo
 have E:=xF.AI xh;have xx:∀a,Lv q a->¬B8 b r u k.l a->i.M a=q.M a/\Lv i a:=by grind
 have xS:∀a,Lv c a->i.M a=c.M a/\Lv i a:=by grind
 let⟨x6,x7⟩:=xx z xa xw
 let⟨⟨xy,xg⟩,w,U,j⟩:=Dh (f:=λxt (xd:F×F) w=>jj W9 170 2 [.p y 0,.p t 0,.n xt,.p M (f*2),xd.1,.p z 0,xd.2,.p h 0] w)
  (λxt xd w xQ j=>Aar Y (xq.at X).2 xv p v xu P P P (xS t xz).2 xQ j) ({
  ok:=Aw.sn i,ot:=Aw.sn i,d:=Ku _,e:=λa m=>⟨B,m⟩
  fk:=λa _=>Cg a,ft:=λa _=>Cg a}:Yy i o p g.AV 0 (.sn,.sn) i)
 have U:jj W9 170 2 [.p y 0,.p t 0,.n 0,.p M (f*2),.sn,.p z 0,.sn,.p h 0] i=jj W9 170 2 [.p y 0,.p t 0,.n g.AV.l,.p M (f*2),xy,.p z 0,xg,.p h 0] w:=U;have xB:=j.ok;have xC:=j.ot;have Q:=j.fk;have xm:=j.ft;rw[Gz]at xB xC;let⟨I,R,yd,_,_,ye,yf,xj,xD,xX,xY⟩:=v.cq j.e.WU Y xB (Q.Kt v.o) (λx J=>by
  let⟨xe,Z⟩:=Bb J
  exact Q.Kt (v.c x xe Z)) (λx J s=>by
  let⟨xe,Z⟩:=Bb J
  exact Q.Kt (v.w x xe Z))
 have:I=M:=by grind
 subst this;rw[Ae5]at xj;have xV:Lv i I:=by rw[xW];exact xG.lv
 have x8:B8 b r u k.l I:=.i xY;have xr:∀a,Lv q a->¬B8 b r u k.l a->R.M a=q.M a/\Lv R a:=λa m s=>by have:=xx a m s;exact⟨(xD a P).t ((j.e.M P).t this.1),by rw[xX];exact j.e.lv this.2⟩
 refine⟨b,r,BW u f xy,xg,R.set h (.I 1 [b]),?_,xj.Ar λa m xp=>⟨?_,by grind⟩,xC.Ar λa m s=>⟨?_,?_⟩⟩;.have xJ:Bl 0 [.p I (f*2)]=A (.p I (f*2)):=B;rw[K4.2.2.1];simp only[QY,BB xK,xI,xs,xf,Ay V 0,Ay ((E.M xT).t xL) 1,xu,xJ,x1,Ay ((E.M xU).t xM) 1,BB ((E.M xz).t xN),x3,x4];rw[U,K4.2.2.2.2.1];simp only[QY,H B,H (Cp ((v.ext j.e).w f _ Y)),(CA g.AV.l),K4.2.2.2.1,H (BB ((xr z xa xw).1.t V)),H (Gb (((λa m=>(xr a (E.lv m) (xl a m)).1.t (E.M m)) h xA).t xO) B xk),H (BB (by rw[AN,Af B]):(R.set h (.I 1 [b])).AL h 0 1=A [b]), *]
 .rw[AN,Ad];intro n;subst n;rw[Aed]at xp;have xn:=E_.1 (xl _ xA);refine E_.2 ⟨xn.1,λx J=>⟨(xn.2 x J).1,?_⟩⟩ xp;by_cases n:x=f;.subst n;rw[Ec];exact Q _ P
  .rw[CE n];grind
 .rw[AN,Ad ((λa s n=>by subst n;exact s (xm a P):∀a,¬As xg a->a≠h) a s),xD a (λn=>by subst n;exact s (xm _ xV))]
 grind
def C9(a:C AE)(c b e:N):C AE×C Bz×K:=
 if G0 a c b=Aa then(a,[],0)
 else if(O8 a c b).Ak≠0 then(a,[],6)
 else(Ke a c.n (λd=>⟨d.I.set b.n.n e,Gg b.n d.AV⟩),(match Iq a c.n with|some d=>G4 b.n e d.AV|none=>[]),0)
def o3{a:G}{h:F}{g:C Bz}(i:Fz 3 a h (Z AE.c d))(j:Aw a e Bz.c 3 g)(b:K):Fz 5 a (.AB [.S [h],e,.n b]) (.AB [.S (Bp d),Z Bz.c g,.n b]):=
 Fz.AB (Cw.cons (Fz.S (Cw.cons i (Cw.nil _ _))) (Cw.cons ((Fz.Cs (b:=Bz.c) (h:=3) (λ_=>B) (λ_=>B) j).up (by omega)) (Cw.cons ((Fz.im (c:=a) (a:=.n b) B).up (by omega)) (Cw.nil _ _))))
def po(a:C AE)(S:EW a)(b c f:N)(U:Kd a b):AY 170 [.S (Bp a),.S (N.c b),.S (N.c c),.S (N.c f)] (.AB [.S (Bp (C9 a b c f).1),Z Bz.c (C9 a b c f).2.1,.n (C9 a b c f).2.2]):=by
 have v:G.Aq.next=.h:=B
 have w:(G.Aq.V (.I 1 (Bp a))).next=.o .h:=B
 have x:((G.Aq.V (.I 1 (Bp a))).V (.I 2 (N.c b))).next=.i .h:=B
 have y:(((G.Aq.V (.I 1 (Bp a))).V (.I 2 (N.c b))).V (.I 2 (N.c c))).next=.o (.o .h):=B
 have z:((((G.Aq.V (.I 1 (Bp a))).V (.I 2 (N.c b))).V (.I 2 (N.c c))).V (.I 2 (N.c f))).next=.i (.o .h):=B
 generalize s:((((G.Aq.V (.I 1 (Bp a))).V (.I 2 (N.c b))).V (.I 2 (N.c c))).V (.I 2 (N.c f))).V (.I 1 [.sn])=e
 have p:e.M .h=A (.I 1 (Bp a)):=by grind
 have q:e.M (.o .h)=A (.I 2 (N.c b)):=by grind
 have r:e.M (.i .h)=A (.I 2 (N.c c)):=by grind
 have xf:e.M (.o (.o .h))=A (.I 2 (N.c f)):=by grind
 have R:e.M (.i (.o .h))=A (.I 1 [.sn]):=by grind
 have xk:Lv e .h:=by grind
 have xl:Lv e (.o .h):=by grind
 have xm:Lv e (.i .h):=by grind
 have xn:Lv e (.o (.o .h)):=by grind
 have xo:Lv e (.i (.o .h)):=by grind
 have xb:e.AL .h 0 1=A (Bp a):=BB p
 have xc:e.AL (.o .h) 0 2=A (N.c b):=BB q
 have xa:e.AL (.i .h) 0 2=A (N.c c):=BB r
 have J:e.Ap (.o .h) 1=A (.n b.n):=Ay q 1
 have P:e.Ap (.i .h) 1=A (.n c.n):=Ay r 1
 have M:e.Ap .h 0=A (Z AE.c a):=Ay p 0
 have xs:AX 1 e [.p (.i (.o .h)) 0,.S (Bp a)]=A (AC,e.set (.i (.o .h)) (.I 1 (Bp a))):=Gb R B B
 have xt:(e.set (.i (.o .h)) (.I 1 (Bp a))).AL (.i (.o .h)) 0 1=A (Bp a):=BB (by rw[AN,Af B])
 have xd:∀(k:K),(∃m,xx W9 170 [.S (Bp a),.S (N.c b),.S (N.c c),.S (N.c f)] G.Aq=A (.AB [.S (Bp a),.sn,.n k],m))->AY 170 [.S (Bp a),.S (N.c b),.S (N.c c),.S (N.c f)] (.AB [.S (Bp a),Z Bz.c [],.n k]):=λk i=>by
  let⟨m,i⟩:=i
  exact EV B B i B
 have h:=fK a S b c U
 unfold C9
 cases o:G0 a b c with
 |false=>rw[o]at h;rw[Af B];refine xd 0 ?_;rw[K4.1];simp only[↓GS,↓Q,↓QD,v,w,x,y,z];rw[s];simp only[QY,h.H B,QB, *];grind
 |true=>
  rw[o]at h;rw[Ad (by grind)];let⟨I,u,g,E,t,T,n,W,xg,_,_,V⟩:=Sw U o
  have Y:AR 2 [Z N.c g.I,.n c.n]=A (.pi (N.c E)):=by rw[n];exact HZ W
  have X:AR 2 [Z AE.c a,.n b.n]=A (.pi (AE.c g)):=by rw[t];exact M2 T
  have l:=DW .u8 E.Ak 0;rw[xg];by_cases j:E.Ak=0
  .rw[A0 j]at l;rw[Ad (λi=>i j)];have xj:(Ke a b.n λg=>⟨g.I.set c.n.n f,Gg c.n g.AV⟩)=a.set I ⟨g.I.set u f,Gg u g.AV⟩:=by unfold Ke;rw[V];simp only[];rw[t,n];rfl
   have xi:b=⟨b.Ak,I⟩:=by rw[<-t]
   have xh:c=⟨c.Ak,u⟩:=by rw[<-n]
   have F:=q;have H:=r;rw[xi]at F;rw[xh]at H;let⟨xr,xu,xv,xq,m,k,xe,xp⟩:=wJ a S T W b.Ak c.Ak f p F H xf R xk xl xm xn xo
   rw[xj,V,n];refine Fz.Oc B B (f:=.AB [.S [xr],xq,.n 0]) (d:=m) (c:=5) ?_ (o3 xe.fz xp 0) (by omega);rw[K4.1];simp only[↓GS,↓Q,↓QD,v,w,x,y,z];rw[s];simp only[QY,xb,xc,xa,h.H B,QB,K4.2.1,M,J,X,P,Y,l];grind
  .rw[A2 j]at l;rw[Af j];refine xd 6 ?_;rw[K4.1];simp only[↓GS,↓Q,↓QD,v,w,x,y,z];rw[s];simp only[QY,xb,xc,xa,h.H B,QB,K4.2.1,M,J,X,P,Y,l,xs,xt];grind
def a7{o:Type}{d:C o}{g:o->Ah}{e:D->G->R}{k:G->R}{n:F}{f:G->Prop}(x:∀b h a,d[b]? =A h->f a->g h=L->∃c,e b a=e (b+1) c/\f c)(t:∀b h a,d[b]? =A h->f a->g h=Aa->∃c,e b a=A (n,c))(s:∀a,f a->e d.l a=k a):∀a,f a->(d.all g=L->∃c,e 0 a=k c/\f c)/\(d.all g=Aa->∃c,e 0 a=A (n,c)):=by
 have r:∀j b a,d.l-b=j->b<=d.l->f a->((d.d b).all g=L->∃c,e b a=k c/\f c)/\((d.d b).all g=Aa->∃c,e b a=A (n,c)):=by
  intro j
  induction j with
  |zero=>
   intro b a q p m;have:b=d.l:=by omega
   grind
  |succ j w=>
   intro b a q p m;let⟨h,v,u⟩:=Ds (b:=d) (a:=b) (by omega)
   grind
 intro a m;have:=r d.l 0 a (by omega) (by omega) m;grind
def fR(b:C N)(c:K)(o:b.l<1000000):AY 182 [Z N.c b,.n c] (.b (b.all λj=>Hd j c)):=Bu B B B (by
 have q:=a7 (d:=b) (g:=λj=>Hd j c) (e:=λf a=>jj W9 182 2 [Z N.c b,.n c,.n f] a) (k:=λa=>A (.b L,a)) (n:=.b Aa)
  (λf k a e h g=>by have m:=Cm (AdN.1 e).1;have d:=Z9 k c;rw[g]at d;refine⟨a,?_,h⟩;show jj W9 182 2 _ _=jj W9 182 2 _ _;rw[Ps.2.2.1];simp only[QY,Ps.2.2.2.1,H (HZ e),d.H B,Ps.2.2.2.2,H (Bh (a:=f) (by omega)), *])
  (λf k a e h g=>by have d:=Z9 k c;rw[g]at d;refine⟨a,?_⟩;show jj W9 182 2 _ _=_;rw[Ps.2.2.1];simp only[QY,(Cm (AdN.1 e).1),Ps.2.2.2.1,HZ e,d.H B,QB])
  (λa h=>by show jj W9 182 2 _ _=_;rw[Ps.2.2.1];simp only[Q,QT,AdM,(CA b.l),Ps.2.1])
  G.Aq B
 rw[Ps.1];grind)
def KK(c:K)(a:AE):Ah:=(a.I.all λd=>Hd d c)&&a.AV.all λb=>BK b.B0 0 (a.I.l-1)&&Ao (((a.I[b.B0.n]?).g AO).Ak=0)
def I1(a:C AE):K:=if(a.all (KK a.l)&&Ao (BH a<=6000))=L then 0 else 4
def b4{b:C _}{c:BJ}(d:b[a]? =A c):AR 2 [Z BJ.c b,.n a]=A (.pi c.c):=EZ d B
variable{v:T}
def Aa0{c:AE}(I:c.I.l<=100/\c.AV.l<=6000){u:T}(r y:K)(t p:F){j:G}(E:j.M v=A (.I 2 (AE.c c))):((c.AV.all λd=>BK d.B0 0 (c.I.l-1)&&Ao (((c.I[d.B0.n]?).g AO).Ak=0))=L->∃f,jj W9 181 5 [.p v 0,.n 0,.n r,.p u 0,t,p] j=jj W9 181 4 [.n r,.p u 0,t,p] f/\f=j)/\((c.AV.all λd=>BK d.B0 0 (c.I.l-1)&&Ao (((c.I[d.B0.n]?).g AO).Ak=0))=Aa->∃f,jj W9 181 5 [.p v 0,.n 0,.n r,.p u 0,t,p] j=A (.n 4,f)):=by
 refine a7 (e:=λs j=>jj W9 181 5 [.p v 0,.n s,.n r,.p u 0,t,p] j) ?_ ?_ ?_ j B
 .intro s d f k m e;subst m;have w:=Cm (AdN.1 k).1;have h:=Lz d.B0 0 (c.I.l-1);rw[AdO,AdV]at e;have g:=e.1;rw[e.1]at h;unfold BK at g;simp only[AdO,AdV]at g;let⟨o,n⟩:=Bb (b:=c.I) (a:=d.B0.n) (by omega)
  have q:=e.2;rw[n]at q;have q:o.Ak=0:=q;have x:AR 2 [Z N.c c.I,.n d.B0]=A (.pi o.c):=by have:=HZ n;rwa[show d.B0.n=d.B0 by omega]at this
  refine⟨f,?_,B⟩;rw[Hv.2.2.2.2.2.2.2.1];simp only[QY,Hv.2.2.2.2.2.2.2.2.1,H (b4 k),H (FA (a:=c.I.l) (b:=1) (by omega) (by omega)),h.H B,Hv.2.2.2.2.2.2.2.2.2.1,H (Bh (a:=s) (by omega)), *]
 .intro s d f k m e
  subst m
  have w:=Cm (AdN.1 k).1
  have z:=FA (a:=c.I.l) (b:=1) (by omega) (by omega)
  have h:=Lz d.B0 0 (c.I.l-1)
  refine⟨f,?_⟩
  rw[Hv.2.2.2.2.2.2.2.1]
  cases g:BK _ 0 _ with
  |false=>rw[g]at h;simp only[QY,Hv.2.2.2.2.2.2.2.2.1,H (b4 k),h.H B,QB, *]
  |true=>
   rw[g]at h e;rw[Aep,AfE]at e;unfold BK at g;simp only[AdO,AdV]at g;let⟨o,n⟩:=Bb (b:=c.I) (a:=d.B0.n) (by omega)
   rw[n]at e;have q:¬o.Ak=0:=e;have x:AR 2 [Z N.c c.I,.n d.B0]=A (.pi o.c):=by have:=HZ n;rwa[show d.B0.n=d.B0 by omega]at this
   simp only[QY,Hv.2.2.2.2.2.2.2.2.1,H (b4 k),h.H B, *]
 .intro f m;subst m;rw[Hv.2.2.2.2.2.2.2.1];simp only[QY,(CA c.AV.l), *]
def pI(c:C AE)(S:EW c):AY 181 [.S (Bp c)] (.n (I1 c)):=Bu B B B (by
 have xn:=S.1;have N:(G.Aq.V (.I 1 (Bp c))).M .h=A (.I 1 (Bp c)):=B;have xo:G.Aq.next=.h:=B;have xa:Lv (G.Aq.V (.I 1 (Bp c))) .h:=by grind
 generalize xd:G.Aq.V (.I 1 (Bp c))=U at N xa;have xj:=Ay N 0;have xb:¬(c.l:K)>400:=by omega
 have xh:∀{z:R},jj W9 181 3 [.p .h 0,.n c.l,.n 0,.n 0] U=z->xx W9 181 [.S (Bp c)] G.Aq=z:=λ{z} n=>by rw[Hv.1];simp only[↓GS,↓Q,xd,↓h2,↓QT,xb,AdM,Hv.2.1];grind
 have v:=MU (d:=λg (f:D) d=>jj W9 181 3 [.p .h 0,.n c.l,.n g,.n f] d) (e:=λg f d=>AH U d/\f=BH (c.t g)/\(c.t g).all (KK c.l)=L) (g:=λw=>∃j,w=A (.n (I1 c),j))
  (λg f d Y h=>by
   let⟨y,h,r⟩:=h
   obtain⟨e,k⟩:=Bb Y
   have xg:=S.at k
   have l:=Cm Y
   have xl:f<=g*6000:=by
    rw[h];have:=jh (a:=c.t g) (λe k=>(S.2 e P).2);have xe:(c.t g).l=g:=by grind
    rw[xe]at this;grind
   have X:=F2 (a:=f) (b:=e.AV.l) (by omega) (by omega)
   have E:=Ay ((y.M xa).t N) 0
   have xq:∀(d:G) v,bl (.p d.next 0) (d.V (.I 2 [.sn,.sn])) v=v (.p d.next 0) (d.V (.I 2 [.sn,.sn])):=λ_ _=>B
   have x:AX 2 (d.V (.I 2 [.sn,.sn])) [.p d.next 0,.S (AE.c e)]=A (AC,d.V (.I 2 (AE.c e))):=ET B B
   have T:AH d (d.V (.I 2 (AE.c e))):=AH.V _ _
   have u:(d.V (.I 2 (AE.c e))).M d.next=A (.I 2 (AE.c e)):=by grind
   generalize d.V (.I 2 (AE.c e))=xc at x T u
   have M:=Ay u 0
   have W:=Ay u 1
   have J:¬(e.I.l:K)>100:=by omega
   have q:=fR e.I c.l (by omega)
   have Z:=Aa0 xg (u:=.h) g f (.n c.l) (.n (f+e.AV.l)) u
   have V:KK c.l e=Aa->I1 c=4:=λxm=>by unfold I1;grind
   cases o:e.I.all (λxi=>Hd xi c.l)with
   |false=>rw[o]at q;right;refine⟨xc,?_⟩;rw[V (by unfold KK;rw[o];rfl)];show jj W9 181 3 _ _=_;rw[Hv.2.2.2.1];simp only[Q,QD,QT,AdM,H E,l,Hv.2.2.2.2.1,H (M2 k),H x,H M,J,q.H B,QB]
   |true=>
    rw[o]at q
    cases s:e.AV.all (λw=>BK w.B0 0 (e.I.l-1)&&Ao (((e.I[w.B0.n]?).g AO).Ak=0))with
    |false=>
     let⟨j,n⟩:=Z.2 s
     right;refine⟨j,?_⟩;rw[V (by unfold KK;rw[o,s];rfl)];show jj W9 181 3 _ _=_;rw[Hv.2.2.2.1];simp only[Q,QD,QT,AdM,H E,l,Hv.2.2.2.2.1,H (M2 k),H x,H M,J,q.H B,Hv.2.2.2.2.2.2.1,H W,H X,n]
    |true=>
     obtain⟨j,n,rfl⟩:=Z.1 s;left;refine⟨f+e.AV.l,j,?_,y.AI T,by rw[Ya k,h],?_⟩;.show jj W9 181 3 _ _=jj W9 181 3 _ _;rw[Hv.2.2.2.1];simp only[Q,QD,QT,AdM,H E,l,Hv.2.2.2.2.1,H (M2 k),H x,H M,J,q.H B,Hv.2.2.2.2.2.2.1,H W,H X,n,Hv.2.2.2.2.2.1,H (Bh (a:=g) (by omega)),AfD]
     .rw[<-FL k,AeG,r,Aep,Aer,List.all_nil,Bool.and_true];unfold KK;rw[o,s];rfl)
  (λf d h=>by
   let⟨y,h,r⟩:=h
   rw[Gz]at h r;have l:=CA c.l;have t:=Ew .n f 6000;refine⟨d,?_⟩;show jj W9 181 3 _ _=_;rw[Hv.2.2.2.1];unfold I1;rw[r,Aep];by_cases xk:f<=6000;.rw[A2 (by omega)]at t;rw[Af (by grind)];simp only[QY,l,Hv.2.2.1,t,Hv.2.2.2.2.2.2.2.2.2.2]
   .rw[A0 (by omega)]at t;rw[Ad (by grind)];simp only[QY,l,Hv.2.2.1,t])
  ⟨λxp xf=>⟨B,xf⟩,B,B⟩
 obtain⟨j,n⟩:=v;exact⟨j,xh n⟩)
def Hx(b:N)(a:C K):N×C K:=if b.Ak=4 then(⟨b.Ak,((a.idxOf b.n:D):K)⟩,if a.idxOf b.n=a.l then a++[b.n]else a)else(b,a)
def Cf:C N->C K->C N×C K
 |[],a=>([],a)
 |b::c,a=>((Hx b a).1::(Cf c (Hx b a).2).1,(Cf c (Hx b a).2).2)
def cg(c:N):∀b a,Cf (b++[c]) a=((Cf b a).1++[(Hx c (Cf b a).2).1],(Hx c (Cf b a).2).2)
 |[],a=>rfl
 |d::b,a=>by show((Hx d a).1::(Cf (b++[c]) (Hx d a).2).1,(Cf (b++[c]) (Hx d a).2).2)=_;rw[cg c b];rfl
def TF:∀a b,(Cf a b).1.l=a.l
 |[],b=>rfl
 |c::a,b=>by show(Cf a _).1.l+1=_;rw[TF a];rfl
def uO(b:N)(a:C _):(Hx b a).2.l<=a.l+1:=by
 unfold Hx;split;.grind
 .simp
def cf:∀b a,(Cf b a).2.l<=a.l+b.l
 |[],a=>CK _
 |c::b,a=>by show(Cf b (Hx c a).2).2.l<=_;have d:=cf b (Hx c a).2;have e:=uO c a;rw[Aec];omega
def ht(d:F)(c:C _):∀b a,b<a.l->Dg b [d] (a++c)=Dg b [d] a++c
 |0,e::a,_=>rfl
 |b+1,e::a,f=>by show e::Dg b _ (a++c)=e::(Dg b [d] a++c);rw[ht d c b a (by grind)]
 |_,[],f=>by grind
def hu(d c:C F)(b:D):∀a,Dg (a.l+b) d (a++c)=a++Dg b d c
 |[]=>by grind
 |e::a=>by
  have:(e::a).l+b=(a.l+b)+1:=by grind
  rw[this];show e::Dg _ d (a++c)=_;rw[hu d c b a];rfl
def At.Gw{k:Type}{d:k->C F}(p:∀i,(d i).l=a){h:G}{m:F}{c:C k}{j:D}{i:k}{e:T}(l:At h m d a c b i e)(v:Aw h m d a c)(y:c[b]? =A i){f:k}{g:F}(E:g.I=[g])(H:Fl g=L)(z:d f=Dg j [g] (d i))(Q:j<a)(R:2<=a):AX 1 h [.p e (b*a+j),g]=A (AC,h.set e (.I (c.l*a) ((c.set b f).f d)))/\Aw (h.set e (.I (c.l*a) ((c.set b f).f d))) m d a (c.set b f):=by
 have w:=l.hi;have S:b*a+a<=c.l*a:=by rw[<-Afe];exact AeZ a w
 let⟨t,u⟩:=Qt p y
 have o:(c.set b f)[b]? =A f:=by grind
 let⟨r,_⟩:=Qt p o
 have J:Dg (b*a+j) [g] (c.f d)=(c.set b f).f d:=by
  rw[t,<-u,hu,ht _ _ _ _ (by grind),r,<-z];congr 1;.rw[List.take_set_of_le (CK b)]
  .congr 1;congr 1;rw[List.drop_set_of_lt (by omega)]
 constructor;.rw[Gx l.M (by omega) (by omega) E H,J]
 .rcases v with⟨_,rfl⟩|⟨n,q,x,o,N,P⟩;.grind
  .have:e=n:=by
    by_cases s:e=n
    .grind
    .exfalso;exact l.nb (by rw[x];exact EN λI=>s I.s)
   subst this
   exact .j ⟨e,q,by grind,by grind,by rw[AN,Af B,Aed],by grind⟩
def oe{d:G}{I q:F}{b:C K}{y:C N}{c:N}{g:D}{n:T}(P:d.M v=A (.I 1 [I]))(u:Aw d I Be 1 b)(W:b.l<1000000)(m:At d q N.c 2 y g c n)(U:y[g]? =A c):∀l a,b.idxOf c.n-a=l->a<=b.idxOf c.n->jj W9 210 6 [.n a,.n g,.p v 0,q] d=jj W9 210 5 [.n (b.idxOf c.n),.n g,.p v 0,q] d:=by
 have s:=Ay P 0
 have t:=Cp u
 have z:Bl 1 [.p n (g*2)]=A (.p n (g*2+1)):=B
 have J:=m.Ap (f:=N.c) (λ_=>B) U (b:=1) (by omega)
 have X:b.idxOf c.n<=b.l:=by grind
 intro l
 induction l with
 |zero=>
  intro a S R;have:a=b.idxOf c.n:=by omega
  rw[<-this,Ja.2.2.2.2.2.2.2.1];by_cases k:a<b.l
  .let⟨j,e⟩:=Bb k
   let⟨p,h⟩:=CD (w:=1) (λ_=>B) u e
   have x:AM d [.p p (a*1)]=A (.n j):=(h.Ap (f:=Be) (λ_=>B) e (b:=0) (by grind));have r:j=c.n:=by grind
   simp only[Q,QT,H s,H t,(Cm k),H h.ia,H x,H m.ia,H z,H J,r]
  .have k:¬a<(b.l:K):=by omega
   simp only[Q,QT,AdM,H s,H t,k]
 |succ l V=>
  intro a S R;have E:a<b.l:=by omega
  let⟨j,e⟩:=Bb E
  let⟨p,h⟩:=CD (w:=1) (λ_=>B) u e
  have x:AM d [.p p (a*1)]=A (.n j):=(h.Ap (f:=Be) (λ_=>B) e (b:=0) (by grind));have r:¬j=c.n:=λM=>by have:=List.not_of_lt_findIdx (show a<b.idxOf c.n by omega);rw[(AdN.1 e).2,M]at this;simp at this
  rw[Ja.2.2.2.2.2.2.2.1];simp only[Q,QT,AdM,H s,H t,(Cm E),H h.ia,H x,H m.ia,H z,H J,r,Ja.2.2.2.2.2.2.2.2.1,H (Bh (a:=a) (by omega))];exact V (a+1) (by omega) (by omega)
structure Wa(h:C N)(j:C K)(i:G)(e:T)(k f:F)(g:D)(c:F)(b:G):Prop where
 oc:Aw b f N.c 2 ((Cf (h.t g) j).1++h.d g)
 oo:Aw b c Be 1 (Cf (h.t g) j).2
 gq:b.M e=A (.I 1 [c])
 lq:Lv b e
 aq:As c e
 cq:As f e
 d:Cn f c
 BO:∀a,Lv i a->a≠e->As k a->b.M a=i.M a/\Lv b a/\As c a
def wx{b:C N}{d:N}(e:b[a]? =A d)(c:C K):(Cf (b.t a) c).1++b.d a=(Cf (b.t a) c).1++d::b.d (a+1)/\(Cf (b.t (a+1)) c).1++b.d (a+1)=(Cf (b.t a) c).1++(Hx d (Cf (b.t a) c).2).1::b.d (a+1)/\(Cf (b.t (a+1)) c).2=(Hx d (Cf (b.t a) c).2).2/\(Cf (b.t a) c).1.l=a:=by
 have h:=(AdN.1 e).1;let⟨j,f,i⟩:=Ds h
 rw[e]at f;cases f;have g:=cg d (b.t a) c;rw[FL e]at g;refine⟨by grind,by grind,by grind,?_⟩;rw[TF,Aef];omega
def iW{h:F}{c:C _}{e:D}{f:N}{b:G}{g:T}(p:Aw b h N.c 2 c)(j:At b h N.c 2 c e f g)(m:c[e]? =A f)(i:K):∃d,AX 1 b [.p g (e*2+1),.n i]=A (AC,d)/\Aw d h N.c 2 (c.set e ⟨f.Ak,i⟩)/\(∀a,a≠g->d.M a=b.M a)/\(∀a,Lv d a=Lv b a):=by
 let⟨k,n⟩:=j.Gw (a:=2) (λ_=>B) p m (j:=1) (f:=⟨f.Ak,i⟩) B B B (by grind) (by grind)
 exact⟨_,k,n,λa l=>by rw[AN,Ad l],P⟩
def Aau{l:C N}{s:C K}{xa:G}{xy q:F}(xq:Dx xa q)(xN:s.l+l.l<=900000){e:N}(xw:l[b]? =A e){xi:F}{z:G}(a:Wa l s xa h xy q b xi z):∃r xt,jj W9 210 2 [.p h 0,.n b,q] z=jj W9 210 2 [.p h 0,.n (b+1:D),q] xt/\Wa l s xa h xy q (b+1) r xt:=by
 have xD:=(AdN.1 xw).1;let⟨xp,u,p,xd⟩:=wx xw s
 have J:=a.oc;have xu:=cf (l.t b) s;rw[Aef]at xu;rw[xp]at J;generalize xM:(Cf (l.t b) s).1=Z at J xp u xd;have U:=a.oo;generalize xO:(Cf (l.t b) s).2=n at U u p xu;have E:(Z++e::l.d (b+1))[b]? =A e:=by rw[<-xd];grind
 have xE:(Z++e::l.d (b+1)).l=l.l:=by grind
 let⟨t,j⟩:=CD (w:=2) (λ_=>B) J E
 have xF:=Cp J;rw[xE]at xF;have xH:=Cm xD;have xK:Bl 0 [.p t (b*2)]=A (.p t (b*2)):=B;have xJ:Bl 1 [.p t (b*2)]=A (.p t (b*2+1)):=B;have xS:AM z [.p t (b*2)]=A (.i .u8 e.Ak):=j.Ap (f:=N.c) (λ_=>B) E (b:=0) (by grind);by_cases xx:e.Ak=4
 .have xh:Hx e n=(⟨e.Ak,(n.idxOf e.n)⟩,if n.idxOf e.n=n.l then n++[e.n]else n):=Af xx;have xe:=oe a.gq U (by omega) j E _ 0 B Om;have xe:jj W9 210 6 [.n 0,.n b,.p h 0,q] z=_:=xe;rw[xh]at u p;generalize n.idxOf e.n=Q at xe u p;have xQ:=Ay a.gq 0;have xR:=Cp U;have xv:(Z++e::l.d (b+1)).set b ⟨e.Ak,Q⟩=(Cf (l.t (b+1)) s).1++l.d (b+1):=by rw[u,<-xd];grind
  have xr:jj W9 210 2 [.p h 0,.n b,q] z=jj W9 210 5 [.n Q,.n b,.p h 0,q] z:=by rw[Ja.2.2.1];simp only[QY,Ja.2.2.2.1,H j.ia,Ja.2.2.2.2.2.1, *]
  have xn:t≠h:=λg=>j.nb (g▸a.cq);by_cases xc:Q=n.l
  .rw[Af xc]at p;let⟨r,M,xP,xl,V,xb⟩:=FJ (w:=1) (b:=e.n) (o:=.n e.n) (h:=8) (λ_=>B) B B U (DG (by omega))
   have xG:=TL ((V.M a.lq a.aq).t a.gq) (Cr xl).1 (Cr xl).2;have W:∀c,c≠h->(M.set h (.I 1 [r])).M c=M.M c:=λc k=>by rw[AN,Ad k]
   have xs:(M.set h (.I 1 [r])).M h=A (.I 1 [r]):=by rw[AN,Af B]
   have R:∀c,Lv (M.set h (.I 1 [r])) c=Lv M c:=P;generalize M.set h (.I 1 [r])=xL at xG W xs R;have xB:=xb h a.lq a.aq;have xz:=J.Ar λc k m=>⟨(W c (λg=>by subst g;exact m a.cq)).t (V.M k (a.d.r m)),by rw[R];exact V.lv k (a.d.r m)⟩;have xo:=Cn.of λc m=>xb c (J.Cz m) (a.d.r m);let⟨xC,xm⟩:=CD (w:=2) (λ_=>B) xz E
   have:xC=t:=by have:=xm.ia;rw[j.ia]at this;grind
   subst this;let⟨xf,xA,S,v,I⟩:=iW xz xm E Q
   rw[xv]at S;refine⟨r,xf,?_,?_⟩;.rw[xr,Ja.2.2.2.2.2.2.1];simp only[QY,H j.ia,H (j.Ap (f:=N.c) (λ_=>B) E (b:=1) (by grind)),Ja.2.2.2.2.2.2.2.2.2, *];rw[<-xc];simp only[QY,xA,Ja.2.2.2.2.1,Bh (a:=b) (by omega)]
   .exact{
    oc:=S
    oo:=by rw[p];exact(xl.Ar λc k m=>⟨W c (λg=>by subst g;grind),by rw[R];grind⟩).Ar λc k m=>⟨v c (λg=>by subst g;exact j.nb (xo.l m)),by rw[I];grind⟩
    gq:=(v h (λg=>xn g.s)).t xs
    lq:=by rw[I,R];exact V.lv a.lq a.aq
    aq:=xB
    cq:=a.cq
    d:=xo
    BO:=λc k X xg=>by
     let⟨xj,xk,Y⟩:=a.BO c k X xg
     refine⟨(v c (λg=>by subst g;exact j.nb (xq _ k))).t ((W c X).t ((V.M xk Y).t xj)),by rw[I,R];grind,xb c xk Y⟩}
  .rw[Ad xc]at p;have xI:¬Q=(n.l:K):=by omega
   let⟨xf,xA,S,v,I⟩:=iW J j E Q
   rw[xv]at S;refine⟨xi,xf,?_,?_⟩;.rw[xr,Ja.2.2.2.2.2.2.1];simp only[QY,Ja.2.2.2.2.2.2.2.2.2,H j.ia,Ja.2.2.2.2.1,H (Bh (a:=b) (by omega)), *]
   .exact{
    oc:=S
    oo:=by rw[p];exact U.Ar λc k m=>⟨v c (λg=>by subst g;exact j.nb (a.d.l m)),by rw[I];grind⟩
    gq:=(v h (λg=>xn g.s)).t a.gq
    lq:=by rw[I];exact a.lq
    aq:=a.aq
    cq:=a.cq
    d:=a.d
    BO:=λc k X xg=>by
     let⟨xj,xk,Y⟩:=a.BO c k X xg
     exact⟨(v c (λg=>by subst g;exact j.nb (xq _ k))).t xj,by rw[I];grind,Y⟩}
 .have xh:Hx e n=(e,n):=Ad xx;rw[xh]at u p;refine⟨xi,z,?_,?_⟩;.rw[Ja.2.2.1];simp only[QY,Ja.2.2.2.1,H j.ia,Ja.2.2.2.2.1,H (Bh (a:=b) (by omega)), *]
  .exact{a with oc:=by rw[u];grind,oo:=by rw[p];grind}
def fY(e:C N)(l:C K)(E:l.l+e.l<=900000){c:G}{a:T}{h:F}(x:c.M a=A (.I 1 [h]))(s:Lv c a)(u:Aw c h Be 1 l)(w:As h a):∃b f j,W9 (pos 210) [Z N.c e,.p a 0] c=A (b,j)/\Aw j b N.c 2 (Cf e l).1/\Aw j f Be 1 (Cf e l).2/\j.M a=A (.I 1 [f])/\Lv j a/\As f a/\Dx c b/\Cn b f/\(∀i,Lv c i->i≠a->As h i->j.M i=c.M i/\Lv j i/\As f i):=by
 let⟨b,q,M,R,p,m⟩:=fT c e (by omega)
 let⟨f,k,r,g⟩:=Dh (h:=e.l) (f:=λo h k=>jj W9 210 2 [.p a 0,.n o,b] k) (g:=λo f k=>Wa e l c a h b o f k)
  (λo f k z g=>by
   let⟨W,J⟩:=Bb z
   exact Aau m E J g) ({
  oc:=R
  oo:=u.ext p
  gq:=(p.M s).t x
  lq:=p.lv s
  aq:=w
  cq:=m a s
  d:=(m.Kt u).symm
  BO:=λi U V y=>⟨P,P,y⟩}:Wa e l c a h b 0 h q)
 have r:jj W9 210 2 [.p a 0,.n 0,b] q=jj W9 210 2 [.p a 0,.n e.l,b] k:=r;have t:=g.oc;have v:=g.oo;rw[Gz,List.drop_of_length_le Om,Ad5]at t;rw[Gz]at v;have Q:=Cp t;rw[TF]at Q;have S:=CA e.l;refine⟨b,f,k,AZ B B ?_,t,v,g.gq,g.lq,g.aq,m,g.d,g.BO⟩;rw[Ja.1,H M];show jj W9 210 2 [.p a 0,.n 0,b] q=_;rw[r,Ja.2.2.1];simp only[QY,Ja.2.1, *]
def bE(a:F):C F:=[a]
structure L8(h:C N)(g:C (C N))(d:T)(e c:F)(f:C F)(b:G):Prop where
 ov:Aw b e N.c 2 h
 os:Aw b c bE 1 f
 all:FN (λa i=>Aw b a N.c 2 i) f g
 gx:b.M d=A (.I 2 [e,c])
 lx:Lv b d
 IC:∀a,a=e\/a∈f->As a d/\Cn a c
 sx:As c d
def Lj(f:T)(c d:F)(e:C F)(a:T):Prop:=a=f\/¬As d a\/∃b,(b=c\/b∈e)/\¬As b a
def FN.Am{d h:Type}{a:d->h->Prop}{b:C _}{f:C _}(e:FN a b f){c:d}(i:c∈b):∃g,a c g:=by
 induction e with
 |nil=>grind
 |cons k _ j=>grind
def FN.gS{h i:Type}{c d:h->i->Prop}{a:C _}{f:C _}(e:FN c a f)(k:∀b g,b∈a->c b g->d b g):FN d a f:=by
 induction e with
 |nil=>exact .nil
 |cons e _ j=>exact .cons P P
def L8.lv{k:C N}{j:C (C N)}{d g:F}{h:C F}{e:G}(b:L8 k j i d g h e){f:T}(a:Lj i d g h f):Lv e f:=by
 rcases a with rfl|a|⟨l,c,a⟩;.exact b.lx
 .exact b.os.Cz a
 .rcases c with rfl|c;.exact b.ov.Cz a
  .let⟨m,_⟩:=b.all.Am c
   grind
def L8.Ar{l:C N}{j:C (C N)}{e:T}{f h:F}{i:C F}{k:G}(b:L8 l j e f h i k)(c:∀a,Lj e f h i a->g.M a=k.M a/\Lv g a):L8 l j e f h i g where
 ov:=b.ov.Ar λa _ d=>c a (.j (.j ⟨f,.i B,d⟩))
 os:=b.os.Ar λa _ d=>c a (.j (.i d))
 all:=b.all.gS λo p m n=>n.Ar λa _ d=>c a (.j (.j ⟨o,.j m,d⟩))
 gx:=(c e (.i B)).1.t b.gx
 lx:=(c e (.i B)).2
 IC:=b.IC
 sx:=b.sx
def L8.add{S:C N}{y:C (C N)}{c:T}{f n l:F}{p:C F}{j:G}(b:L8 S y c f n p j){q:C N}(u:Aw j l N.c 2 q)(E:∀a,Lj c f n p a->As l a)(xn:p.l<100000):
  ∃h g k,(∀(x:F×G->R),((Dq 1 1 j.next [l]).b λa=>(DN 1 24 (G.V j a.1) [n,a.2]).b x)=x (h,g))/\AX 1 g [.p c 1,h]=A (AC,k)/\L8 S (y++[q]) c f h (p++[l]) k/\
   (∀a,Lv j a->¬Lj c f n p a->k.M a=j.M a/\Lv k a/\(As l a->¬Lj c f h (p++[l]) a)):=by
 have X:BU (bE l)=L:=by unfold bE;rw[DJ];simp[(Cr u).2]
 let⟨h,g,xe,v,z,V⟩:=FJ (w:=1) (h:=24) (λ_=>B) X (Cr u).1 b.os (DG (by omega))
 have r:=Gx (d:=1) ((z.M b.lx b.sx).t b.gx) (by omega) (by omega) (Cr v).1 (Cr v).2
 have xg:Dg 1 [h] [f,n]=[f,h]:=B
 rw[xg]at r
 have xb:∀a,a≠c->(g.set c (.I 2 [f,h])).M a=g.M a:=λa m=>by rw[AN,Ad m]
 have H:(g.set c (.I 2 [f,h])).M c=A (.I 2 [f,h]):=by rw[AN,Af B]
 have I:∀a,Lv (g.set c (.I 2 [f,h])) a=Lv g a:=by grind
 generalize g.set c (.I 2 [f,h])=k at r xb H I
 have xk:=E c (.i B)
 have Y:=V c b.lx b.sx
 have xm:=(Cn.of λa t=>E a (.j (.i t))).symm
 have s:∀a,Lv j a->As n a->a≠c->k.M a=j.M a/\Lv k a:=by grind
 have J:∀{d:F}{a:T},As d c->¬As d a->a≠c:=by grind
 refine⟨h,g,k,xe,r,?_,λa m i=> ?_⟩
 .exact{
  ov:=b.ov.Ar λa m i=>s a m ((b.IC f P).2.r i) (J (b.IC f P).1 i)
  os:=v.Ar P
  all:=(b.all.gS λd q e M=>M.Ar λa m i=>s a m ((b.IC d P).2.r i) (J (b.IC d P).1 i)).VS (u.Ar P)
  gx:=H
  lx:=by rw[I];exact z.lv b.lx b.sx
  IC:=λd e=>by
   have Q:∀{U:Type}{xa:U->C F}{xi:D}{xf:C U},Aw j d xa xi xf->Cn d n->Cn d h:=λM xl=>Cn.of P;rcases e with rfl|e;.exact⟨(b.IC d P).1,Q b.ov (b.IC d P).2⟩
   .rcases Aej.1 e with e|e
    .let⟨q,xd⟩:=b.all.Am e
     exact⟨(b.IC d P).1,Q xd (b.IC d (.j e)).2⟩
    .grind
  sx:=Y}
 .have W:=AdS λt=>i (.j (.i t));have xh:=λZ=>i (.i Z);refine⟨P,(s a m W xh).2,λxj xc=> ?_⟩;rcases xc with rfl|g|⟨d,e,g⟩;.grind
  .grind
  .rcases e with rfl|e;.exact i (.j (.j ⟨d,.i B,g⟩))
   .rcases Aej.1 e with e|e;.exact i (.j (.j ⟨d,.j e,g⟩))
    grind
def L8.fz{f:C N}{b:C (C N)}{c:F}{h:C F}{d:G}(a:L8 f b i c e h d):Fz 4 d (.S [c,e]) (.S (Ci.c ⟨f,b⟩)):=
 Fz.S (Cw.cons ((Fz.Cs (h:=2) (λ_=>B) (λ_=>B) a.ov).up (by omega)) (Cw.cons (Fz.Rt (f:=1) (by omega) (λ_=>B) (λ_=>B) a.os (a.all.imp λj k g=>Cw.cons (Fz.Cs (λ_=>B) (λ_=>B) g) (Cw.nil _ _))) (Cw.nil _ _)))
def Vd(a:C AE):Prop:=∀b∈a,∀c∈b.I,Kd a c
def OZ(b:C AE)(a:C K):Prop:=a.Nodup/\∀c∈a,∃d,Iq b c=A d
def bS:∀(b:D)(a:C K),a.Nodup->(∀d∈a,0<=d/\d<b)->a.l<=b
 |0,a,_,c=>by
  cases a with
  |nil=>grind
  |cons f i=>have:=c f P;omega
 |b+1,a,e,c=>by
  by_cases g:(b:K)∈a;.have h:=bS b (a.erase b) P P;grind
  .have:=bS b a e P;omega
def OZ.le{b:C _}{c:C K}(a:OZ b c):c.l<=b.l:=bS _ _ a.1 λf d=>by
 let⟨i,e⟩:=a.2 f d
 obtain⟨h,rfl,g⟩:=Mt e;grind
def uP{b:C AE}{e:N}{d:C K}(c:OZ b d)(f:Kd b e):OZ b (Hx e d).2:=by
 unfold Hx;split
 .rename_i g;split
  .rename_i k;refine⟨AfZ.2 ⟨c.1,(by simp),λi l j m=> ?_⟩,λh a=> ?_⟩;.grind
   .rcases Aej.1 a with a|a;.exact c.2 h a
    .rw[AeW.1 a];exact f g
  omega
 omega
def VI{c:C AE}:∀a {d:C K},OZ c d->(∀e∈a,Kd c e)->OZ c (Cf a d).2
 |[],_,b,_=>b
 |e::a,d,b,f=>VI a (uP b P) P
def I0(a:C AE)(b:K):C N:=match Iq a b with|some c=>c.I|none=>[]
def IA(b:C AE):D->D->C (C N)->C K->C (C N)
 |0,_,a,_=>a
 |f+1,d,a,c=>match c[d]?with
  |none=>a
  |some e=>IA b f (d+1) (a++[(Cf (I0 b e) c).1]) (Cf (I0 b e) c).2
def GC(b:C AE)(a:C N):Ci:=⟨(Cf a []).1,IA b 401 0 [] (Cf a []).2⟩
structure V_(m:C N)(i:G)(d h:T)(e:F)(k:D)(j:C (C N))(l:C K)(g:C F)(f c:F)(b:G):Prop where
 P:L8 m j h e f g b
 ac:j.l=k
 oo:Aw b c Be 1 l
 gq:b.M d=A (.I 1 [c])
 lq:Lv b d
 oq:As c d
 L1:∀a,Lj h e f g a->a≠d/\As c a
 BO:∀a,Lv i a->a≠d->b.M a=i.M a/\Lv b a/\¬Lj h e f g a/\As c a
def Aat{n:C _}(xr:EW n){xa:C N}{m:G}{e l W:T}{E:F}{d:D}{y:C (C N)}{g:C _}{Y:C F}{X xz:F}{s:G}(a:V_ xa m e l E d y g Y X xz s)(xk:m.M h=A (.I 1 (Bp n)))(xw:Lv m h)(xy:h≠e)(xN:g.l<=400){p:K}(t:g[d]? =A p){k:AE}(xs:Iq n p=A k):∃xH v u J,jj W9 183 2 [.p h 0,.p e 0,.n d,.p l 0,.p W 0] s=jj W9 183 2 [.p h 0,.p e 0,.n (d+1:D),.p l 0,.p W 0] J/\V_ xa m e l E (d+1) (y++[(Cf k.I g).1]) (Cf k.I g).2 xH v u J:=by
 let⟨xP,xq,M⟩:=Mt xs
 have xp:=(AdN.1 t).1;have xO:=(xr.at M).1;let⟨xl,xQ,xR,xI⟩:=a.BO h xw xy
 have j:=a.P;let⟨xf,u,xn,xu,xC,xD,xm,xx,xE,q,xL,U⟩:=fY k.I g (by omega) a.gq a.lq a.oo a.oq
 have V:=λc b=>U c (j.lv b) (a.L1 c b).1 (a.L1 c b).2;have x:=j.Ar λc b=>⟨(V c b).1,(V c b).2.1⟩;let⟨v,xM,xo,xv,xG,xb,I⟩:=x.add xC (λc b=>q c (j.lv b)) (by have:=j.all.A7;have:=a.ac;omega)
 have r:=I e xx (λb=>(a.L1 e b).1 B);refine⟨Y++[xf],v,u,xo,?_,?_⟩
 .have xg:=Cm xp;let⟨xe,z⟩:=CD (w:=1) (λ_=>B) a.oo t
  have xF:AM s [.p xe (d*1)]=A (.n p):=(z.Ap (f:=Be) (λ_=>B) t (b:=0) (by grind));have xt:AR 2 [Z AE.c n,.n p]=A (.pi (AE.c k)):=by rw[xq];exact M2 M
  rw[SW.2.2.1];simp only[Q,QD,QT,H (Ay a.gq 0),H (Cp a.oo),xg,SW.2.2.2.1,H (Ay j.gx 1),H (Ay (xl.t xk) 0),H z.ia,H xF,H xt,H xu,(Ij x.gx B:Bv .Cq [.p l 1] xn X=L),Lq,xv,H xG,SW.2.2.2.2,H (Bh (a:=d) (by omega))]
 .exact{
  P:=xb
  ac:=by rw[AdY,a.ac];rfl
  oo:=xD.Ar P
  gq:=r.1.t xm
  lq:=r.2.1
  oq:=xE
  L1:=λc b=>by
   constructor;.intro xj;subst xj;exact r.2.2 (q _ a.lq) b
   grind
  BO:=λc b R=>by
   let⟨xS,S,xA,xB⟩:=a.BO c b R
   let⟨xJ,xc,xd⟩:=U c S R xB
   let⟨xK,xh,xi⟩:=I c xc xA
   exact⟨P,xh,xi (q c S),xd⟩}
def tF(y:EW d)(Z:Vd d){u:C N}{m:G}{r o:T}{j:F}(U:m.M r=A (.I 1 (Bp d)))(xc:Lv m r)(xe:r≠o)(S:m.M i=A (.I 2 [.sn,.sn]))(xb:Lv m i)(xd:i≠o):∀h a c b l f k g,d.l<a+h->OZ d b->V_ u m o v j a c b l f k g->∃s p,jj W9 183 2 [.p r 0,.p o 0,.n a,.p v 0,.p i 0] g=A (s,p)/\Fz 4 p s (.S (Ci.c ⟨u,IA d h a c b⟩)):=by
 have R:∀a c b l f k g,¬a<b.l->V_ u m o v j a c b l f k g->∃s p,jj W9 183 2 [.p r 0,.p o 0,.n a,.p v 0,.p i 0] g=A (s,p)/\Fz 4 p s (.S (Ci.c ⟨u,c⟩)):=by
  intro a c b l f k g xk e;let⟨M,xp,xq,xi⟩:=e.BO i xb xd
  have J:¬a<(b.l:K):=by omega
  have I:BU [j,f]=L:=by rw[DJ];simp[(Cr e.P.ov).2,(Cr e.P.os).2]
  refine⟨.S [j,f],_,?_,(e.P.Ar (g:=g.set i (.I 2 [j,f])) λxr Y=>⟨by rw[AN,Ad (λw=>by grind)],by rw[K9];exact e.P.lv Y⟩).fz⟩;rw[SW.2.2.1];simp only[Q,QT,AdM,H (Ay e.gq 0),H (Cp e.oo),J,SW.2.1,H (BB e.P.gx),H (Gb (M.t S) B I),H (BB (by rw[AN,Af B]):(g.set i (.I 2 [j,f])).AL i 0 2=A [j,f])]
 intro h
 induction h with
 |zero=>intro a c b l f k g W q e;have:=q.le;exact R a c b l f k g (by omega) e
 |succ h xa=>
  intro a c b l f k g W q e
  have xm:=q.le
  have:=y.1
  cases X:b[a]?with
  |none=>
   have x:IA d (h+1) a c b=c:=by show(match b[a]?with|none=>c|some n=>_)=c;grind
   grind
  |some n=>
   let⟨t,z⟩:=q.2 n P
   have xj:I0 d n=t.I:=by unfold I0;grind
   have x:IA d (h+1) a c b=IA d h (a+1) (c++[(Cf t.I b).1]) (Cf t.I b).2:=by show(match b[a]?with|none=>c|some n=>IA d h (a+1) (c++[(Cf (I0 d n) b).1]) (Cf (I0 d n) b).2)=_;grind
   obtain⟨xh,xg,xf,V,w,E⟩:=Aat y e U xc xe (by omega) X z;rw[x,w];let⟨xo,xl,xn⟩:=Mt z
   exact xa (a+1) _ _ xh xg xf V (by omega) (VI _ q (Z t P)) E
def pJ(e:C AE)(s:EW e)(T:Vd e)(g:C N)(b:∀xh∈g,Kd e xh)(xk:g.l<=800000):AY 183 [.S (Bp e),Z N.c g] (.S (Ci.c (GC e g))):=by
 have xl:G.Aq.next=.h:=B;have Y:((G.Aq.V (.I 1 (Bp e))).V (.I 2 [.sn,.sn])).next=.i .h:=B
 generalize k:((G.Aq.V (.I 1 (Bp e))).V (.I 2 [.sn,.sn])).V (.I 1 [.sn])=f;have I:f.M .h=A (.I 1 (Bp e)):=by grind
 have J:f.M (.o .h)=A (.I 2 [.sn,.sn]):=by rw[<-k];rfl
 have M:f.M (.i .h)=A (.I 1 [.sn]):=by grind
 have W:Lv f .h:=by grind
 have X:Lv f (.o .h):=by rw[<-k];exact(E9 (G.Aq.V _) _).V _
 have u:Lv f (.i .h):=by grind
 let⟨c,xb,a,V,o,xe,R,v,xf,r,xi,xd⟩:=fY g [] (by grind) M u (Aw.sn f) (Cg _)
 have h:AH a (a.V (.I 2 [c,.sn])):=AH.V _ _;have j:(a.V (.I 2 [c,.sn])).M a.next=A (.I 2 [c,.sn]):=by grind
 have n:Lv (a.V (.I 2 [c,.sn])) a.next:=by grind
 have z:BU [c,.sn]=L:=by rw[DJ];simp[(Cr o).2]
 have p:AX 2 (a.V (.I 2 [.sn,.sn])) [.p a.next 0,.S [c,.sn]]=A (AC,a.V (.I 2 [c,.sn])):=ET B z;have y:∀t,bl (.p a.next 0) (a.V (.I 2 [.sn,.sn])) t=t (.p a.next 0) (a.V (.I 2 [.sn,.sn])):=λ_=>B;have xa:¬Lv a a.next:=EX _;generalize U:a.next=w at j n p y xa;generalize a.V (.I 2 [c,.sn])=q at h j n p;have x:∀d,Lj w c .sn [] d->d=w\/¬As c d:=λd b=>by
  rcases b with rfl|b|⟨xg,m,b⟩;.grind
  .exact BF (Cg d) b
  grind
 let⟨xo,xj,i,F⟩:=tF s T I W (by grind) J X (by grind) 401 0 [] (Cf g []).2 [] .sn xb q (by have:=s.1;omega) (VI g ⟨Afp,P⟩ b) ({
  P:={ov:=o.ext h,os:=Aw.sn q,all:=.nil,gx:=j,lx:=n,sx:=Cg _,IC:=λxg m=>(by rcases m with rfl|m;exact⟨P,Ku _⟩;grind)}
  ac:=B
  oo:=xe.ext h
  gq:=(h.M v).t R
  lq:=h.lv v
  oq:=xf
  L1:=λd b=>by
   rcases x d b with rfl|b;.grind
   .exact⟨λi=>b (i▸r _ u),P⟩
  BO:=λd b S=>by
   let⟨xm,xn,xc⟩:=xd d b S (Cg d)
   refine⟨P,P,λl=> ?_,xc⟩;rcases x d l with rfl|l;.grind
   .exact l (r d b)})
 refine Fz.Oc B B ?_ F (by omega);have E:Cb [.sn,.sn] [(0,1)] [c]=A (.S [c,.sn]):=by rcases o with⟨rfl,_⟩|⟨_,_,rfl,_⟩<;>rfl
 rw[SW.1];simp only[↓GS,↓Q,(B:(G.Aq.V (.I 1 (Bp e))).next=.o .h),Y];rw[k];simp only[H V,H E,U,y,H p];exact i
def Ur(a:C AE)(b:C N):Ci×K:=
 if I1 a≠0 then(⟨[],[]⟩,I1 a)
 else if 100<b.l\/(b.all λc=>Hd c a.l)=Aa then(⟨[],[]⟩,2)
 else(GC a b,0)
def Xp{c:C _}{b:N}(a:Hd b c.l=L):Kd c b:=λd=>by
 rw[Ph b (by omega)]at a;unfold Gt at a;rw[d,Ad (by grind),Ad (by grind),Ad (by grind),Af B]at a;unfold BK at a;simp only[AdO,AdV]at a;let⟨e,_⟩:=Bb (b:=c) (a:=b.n.n) (by omega)
 refine⟨e,?_⟩;unfold Iq;grind
def ed{c:C AE}(b:I1 c=0):Vd c:=λe d g f=>by
 unfold I1 at b;split at b;.rename_i a;rw[AdO]at a;have:=Aei.1 a.1 e d;unfold KK at this;rw[AdO]at this;exact Xp P
 omega
def pd(a:C AE)(s:EW a)(b:C N)(x:b.l<=800000):AY 124 [.S (Bp a),Z N.c b] (.AB [.S (Ci.c (Ur a b).1),.n (Ur a b).2]):=by
 have l:G.Aq.next=.h:=B;have g:(G.Aq.V (.I 1 (Bp a))).next=.o .h:=B
 generalize f:(G.Aq.V (.I 1 (Bp a))).V (.I 2 [.sn,.sn])=c;have p:c.M .h=A (.I 1 (Bp a)):=by grind
 have q:c.M (.o .h)=A (.I 2 [.sn,.sn]):=by grind
 have E:=BB p;have m:=Ay p 0;have v:Cb [.sn,.sn] [] []=A (.S [.sn,.sn]):=B;have F:AX 2 c [.p (.o .h) 0,.S [.sn,.sn]]=A (AC,c.set (.o .h) (.I 2 [.sn,.sn])):=Gb q B B;have y:(c.set (.o .h) (.I 2 [.sn,.sn])).AL (.o .h) 0 2=A [.sn,.sn]:=BB (by rw[AN,Af B]);have d:=pI a s;have h:∀j,(∃r,xx W9 124 [.S (Bp a),Z N.c b] G.Aq=A (.AB [.S [.sn,.sn],.n j],r))->AY 124 [.S (Bp a),Z N.c b] (.AB [.S (Ci.c ⟨[],[]⟩),.n j]):=λj k=>by
  let⟨r,k⟩:=k
  exact EV B B k B
 unfold Ur;by_cases i:I1 a=0
 .rw[Ad Om];have t:=ed i;rw[i]at d;by_cases n:100<(b.l:K);.rw[Af Om];refine h 2 ?_;rw[Po.1];simp only[↓GS,↓Q,l,g];rw[f];simp only[QY,d.H B,Po.2.1, *];grind
  .have e:=fR b a.l (by omega)
   cases o:b.all (λu=>Hd u a.l)with
   |false=>rw[o]at e;rw[Af P];refine h 2 ?_;rw[Po.1];simp only[↓GS,↓Q,l,g];rw[f];simp only[Q,QT,AdM,d.H B,Po.2.1,n,H m,e.H B,H v,H F,H y];grind
   |true=>rw[o]at e;rw[Ad (by grind)];have w:=pJ a s t b (λu t=>Xp P) x;have I:AX 2 c [.p (.o .h) 0,.S (Ci.c (GC a b))]=A (AC,c.set (.o .h) (.I 2 (Ci.c (GC a b)))):=Gb q B B;have z:(c.set (.o .h) (.I 2 (Ci.c (GC a b)))).AL (.o .h) 0 2=A (Ci.c (GC a b)):=BB (by rw[AN,Af B]);refine EV B B (e:=.AB [.S (Ci.c (GC a b)),.n 0]) (c:=c.set (.o .h) (.I 2 (Ci.c (GC a b)))) ?_ B;rw[Po.1];simp only[↓GS,↓Q,l,g];rw[f];simp only[Q,QT,AdM,H E,d.H B,Po.2.1,n,H m,e.H B,Po.2.2,w.H B,H I,H z]
 .rw[Af i];refine h (I1 a) ?_;rw[Po.1];simp only[↓GS,↓Q,g];rw[f];simp only[QY,d.H B, *];grind
