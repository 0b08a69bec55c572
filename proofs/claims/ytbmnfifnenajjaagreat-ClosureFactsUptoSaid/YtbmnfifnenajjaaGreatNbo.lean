/- Part of the proof. -/
import Derived.Test.YtbmnfifnenajjaaGreatNbn
set_option linter.all false
noncomputable section
open Option renaming some->A,none->O,getD->Option.g,bind->Option.b
open _root_ renaming rfl->B,List->C,Nat->D,Int->K,if_neg->Ad,if_pos->Af,Option->Ae,Bool->Ah,cond->Aj,decide_eq_true->A0,decide_eq_false->A2,absurd->BF
open Bool renaming true->L,false->Aa
open Decidable renaming decide->Ao
open List renaming replicate->BG,length->List.l,map->List.m,take->List.t,drop->List.d,flatMap->List.f
open Nat renaming le_refl->CK
open Go.IntKind renaming i64->Go.IntKind.n
open Array renaming toList->Array.l
open Eq renaming trans->Eq.t,symm->Eq.s
open Or renaming inl->Or.i,inr->Or.j
open Int renaming toNat->Int.n
namespace Go.Proofs.YtbmnfifnenajjaaGreat
open Go.Fg
structure H1(e b:Ai):Prop where
 A7:b.Ac.l=e.Ac.l
 Cc:∀a,(b.at a).AP=(e.at a).AP/\(b.at a).Ax=(e.at a).Ax/\(b.at a).Az=(e.at a).Az/\(b.at a).A4=(e.at a).A4
theorem H1.refl(e:Ai):H1 e e:=⟨B,P⟩
theorem H1.AI{c d f:Ai}(h:H1 c d)(b:H1 d f):H1 c f:=⟨b.A7.t h.A7,λa=>⟨(b.Cc a).1.t (h.Cc a).1,(b.Cc a).2.1.t (h.Cc a).2.1,(b.Cc a).2.2.1.t (h.Cc a).2.2.1,(b.Cc a).2.2.2.t (h.Cc a).2.2.2⟩⟩
theorem H1.of{e a:Ai}(h:a.Ac=e.Ac):H1 e a:=⟨by grind,λb=>by unfold Ai.at;grind⟩
theorem CJ.PA{e f:Ai}{w:C (C (C K))}(c:CJ e w)(a:H1 e f):CJ f w:=by refine⟨by rw[a.A7];exact c.A7,λb g m=>by rw[(a.Cc b).2.2.2];exact c.Ga b _ m,λb n o g p q j k l=> ?_⟩;unfold Ek;rw[(a.Cc b).2.2.2];refine(c.B0 b n o g p q j k l).Hf λd i=>⟨?_,(a.Cc d).2.2.1⟩;unfold CW at i⊢;rw[a.A7,(a.Cc d).1,(a.Cc d).2.1];grind
theorem bZ{e:Ai}{a:D}{b:AK}(h:b.AP=(e.at a).AP/\b.Ax=(e.at a).Ax/\b.Az=(e.at a).Az/\b.A4=(e.at a).A4):H1 e (e.AJ a b):=⟨Ej ..,λd=>by
 by_cases c:a<e.Ac.l;.rw[E4 c];grind
 .have:e.AJ a b=e:=by
   unfold Ai.AJ
   rw[List.set_eq_of_length_le (by omega)]
  grind⟩
theorem XW(e:Ai)(a b c:D)(d:N):H1 e (e.AD a b c d):=bZ ⟨B,B,B,B⟩
theorem kl:∀(a:C Bz)(e:Ai),H1 e (a.foldl HY e)
 |[],e=>H1.refl e
 |b::a,e=>(XW e _ _ _ _).AI (kl a (HY e b))
theorem Aao(e:Ai)(a:A5)(b:K):H1 e (DO e a b):=
 (bZ (e:=e) (a:=a.FE.n) (b:={e.at a.FE.n with AS:=(e.at a.FE.n).AS.set a.Ax.n b}) ⟨B,B,B,B⟩).AI (H1.of B)
def Yx(t:EC)(b:Ai×K)(u:T->Prop)(h:G)(d:R):Prop:=
 (b.2=0->∃a c,d=A (.AB [],a)/\Bj t a b.1 c 0 u/\CJ b.1 c/\Bo u h a)/\(b.2≠0->∃a f c,d=A (.AB [],a)/\Bj t a f c b.2 u/\Bo u h a)
theorem Ut{t:EC}{h:G}{b:Ai}{w:C (C (C K))}{u:T->Prop}{d f:D}{a:Ai×N×K}{g:N}(l:a=(b,g,0))(k:CJ b w){i:R}(j:∃c,i=A (.AB [],c)/\Bj t c (b.AD d f 0 g) w 0 u/\Bo u h c):Yx t (if a.2.2≠0 then(a.1,a.2.2)else(a.1.AD d f 0 a.2.1,0)) u h i:=by
 subst l;let⟨p,m,n,o⟩:=j
 exact⟨λ_=>⟨p,w,m,n,k.PA (XW _ _ _ _ _),o⟩,P⟩
theorem Zt{t:EC}{h:G}{a:Ai}{w:C (C (C K))}{u:T->Prop}{l m:D}{c:Ai×N×K}{j:C AE}{n:N}{f:K}(d:c=if f≠0 then(a,AO,f)else(⟨a.Ac,j,a.round,a.AA⟩,n,0))(q:CJ a w){o:R}(p:∃i,o=A (.AB [],i)/\Bj t i (Ai.AD ⟨a.Ac,j,a.round,a.AA⟩ l m 0 n) w f u/\Bo u h i):Yx t (if c.2.2≠0 then(c.1,c.2.2)else(c.1.AD l m 0 c.2.1,0)) u h o:=by
 let⟨v,r,k,s⟩:=p
 by_cases g:f=0;.rw[Ad Om]at d;subst d;rw[g]at k;exact⟨λ_=>⟨v,w,r,k,q.PA (H1.AI (d:=⟨a.Ac,j,a.round,a.AA⟩) (H1.of B) (XW _ _ _ _ _)),s⟩,P⟩
 .rw[Af g]at d;subst d;rw[Af g];exact⟨P,P⟩
section
variable{t:EC} {h:G} {e:Ai} {w:C (C (C K))} {u:T->Prop}
theorem qH(T:BD t.l)(y:BY t.l e)(xo:Bj t h e w 0 u)(xW:CJ e w){a c:D}(xd:a<e.Ac.l)(ya:IP t.l (e.at a) c=L){n:K}(x4:0<n):Yx t (F6 t.l e ⟨a,c⟩ n) u h (W9 (pos 57) [.p t.x 0,.S (A5.c ⟨a,c⟩),.n n] h):=by
 by_cases xl:e.AA=6000
 .have x2:F6 t.l e ⟨a,c⟩ n=(e,5):=by unfold F6;grind
  rw[x2];refine⟨Om,λ_=> ?_⟩;let⟨yh,xI,yy,yt,xT,yr,yB,yC⟩:=box h (.I 2 (A5.c ⟨a,c⟩))
  have yw:∀xu,u xu->Lv h xu:=λxu x9=>xo.C4 x9;let⟨xO,xy,xz,x5⟩:=xo.ext xT
  have yI:=xz.M;let⟨x,yF,xY,xX⟩:=xz.RG 5
  let⟨xg,xp⟩:=xX.Fp (by grind) x5
  refine⟨x,e,w,AZ B B ?_,⟨xO,xy,xY,xg⟩,P⟩;rw[r57];simp only[QY,H (Pe t.x), *]
 let⟨xg,xp,d,yq,Q,xk,x6,yb,xf⟩:=W3 (m:=⟨t.l,[],0,.h⟩) T y xd ya
 have Q:Dw t.l xg xp (e.at a):=Q;rw[(ZW xf n xl)];have U:=j1 y xd P (jk y x6 yb) x4 xl;have xw:=T.Bc xg xp Q.hb;have N:=xw.Ax c d xk;have yn:=N.some T;have ym:=N.op;have yu:=(AdN.1 xk).1;have ys:=xw.Av;have yx:=y.W.sh.A7;have x7:a<(DO e ⟨a,c⟩ n).Ac.l:=by rw[U.A7];grind
 have o:CJ (DO e ⟨a,c⟩ n) w:=xW.PA (Aao e _ n);let⟨xI,yh,yE,yD,yH,xO,xy,g,q,yo⟩:=Aal T y xo xd Q xk n xl
 have xQ:∀Y∈d.A3.m (Bs (e.at a)),B5 e.Am.l Y:=λY xL=>by obtain⟨xe,_,rfl⟩:=Aeu.1 xL;exact y.W.Bs a xe
 have xn:∀E,E<d.A3.l->∃Y,(d.A3.m (Bs (e.at a)))[E]? =A Y/\B5 e.Am.l Y:=λE yv=>by
  let⟨Y,xL⟩:=Bb (b:=d.A3.m (Bs (e.at a))) (a:=E) (by grind)
  grind
 have xb:=U.Am;have xJ:∀{E},FB e a c E->FB (DO e ⟨a,c⟩ n) a c E:=λh=>h.ON _ _;have yl:∀X,IY e X->IY (DO e ⟨a,c⟩ n) X:=λX h=>h.ON _ _;let⟨xM,xt⟩:=Bb (b:=((DO e ⟨a,c⟩ n).at a).AG) (a:=c) (by have yi:=U.Dj.En a xd;have:=AdW List.length yi.AG;rw[Ad9,Ad9]at this;rw[this,Q.AG];grind)
 have x8:xM.l<1000000:=by have xR:=Q.En (U.Dj.En a xd);have:=xR.AD c d xM xk xt;have:=Rs T d;omega
 have p:∀{xB:Ai}{xG:C (C (C K))}{xD:K}(xe:R),xx W9 57 [.p t.x 0,.S (A5.c ⟨a,c⟩),.n n] h=xe->Kk t xB xG xD u xI xe->∃xc,W9 (pos 57) [.p t.x 0,.S (A5.c ⟨a,c⟩),.n n] h=A (.AB [],xc)/\Bj t xc xB xG xD u/\Bo u h xc:=λxe xl xS=>by
  let⟨xc,k,xU,yp⟩:=xS
  exact⟨xc,AZ B B P,xU,P⟩
 generalize yz:d.A3.m (Bs (e.at a))=xv at*;generalize DO e ⟨a,c⟩ n=k at*;by_cases W:d.op=8\/d.op=9
 .rw[Af W];rw[A2 (by omega)]at g;let⟨j,f,xN⟩:=xn 0 (by omega)
  let⟨xZ,x0,xE,xF,_⟩:=N.call W
  rw[J0 f];unfold Nb;by_cases z:j.Ak=5
  .rw[Ad Om];simp only[AdR];rw[xt,Aeg];refine⟨λ_=> ?_,Om⟩;let⟨x,F,G,I⟩:=p _ g (ox q _ W f z x7 xt x8)
   exact⟨x,w,F,G,o.PA (bZ ⟨B,B,B,B⟩),I⟩
  .rw[Af z];obtain⟨xs,xH⟩:=ow T q _ W f z o.A7 (by rw[U.A7];grind) xE xF;unfold EO;by_cases xj:k.Ac.l=400
   .rw[Af xj];refine⟨λJ=>BF J (by omega),λ_=> ?_⟩;let⟨x,F,G,I⟩:=p _ g (xs xj)
    grind
   .rw[Ad xj,xE,AdR,xF];refine⟨λ_=> ?_,λJ=>BF B J⟩;let⟨x,F,G,I⟩:=p _ g (xH xj)
    exact⟨x,_,F,G,o.Km x0 xZ a c 0 j,I⟩
 rw[Ad W];by_cases Z:d.op=11
 .rw[Af Z];rw[A2 (by omega)]at g;let⟨j,M,xP,f,s,xC,_,yj,yk⟩:=xf.st Z
  rw[J0 f,J0 s,J0 xC];have xN:=xQ j (AdU f);obtain⟨xs,xH⟩:=oj q _ Z f s xC (by rw[xb];exact y.W.Fj) (by grind) (by rw[U.A7];grind) (by rw[xb];exact yj) (λX xK=>yl X (yk X (by rw[xb]at xK;exact xK)));constructor
  .intro J;let⟨x,F,G,I⟩:=p _ g (xs J)
   refine⟨x,_,F,G,?_,I⟩;rw[h7]at J⊢;by_cases x1:(C9 k.Am j M xP).2.2=0;.rw[Ad (λE=>E x1)];exact o.PA (H1.AI (d:=⟨k.Ac,(C9 k.Am j M xP).1,k.round,k.AA⟩) (H1.of B) (kl _ _))
   .grind
  .grind
 rw[Ad Z];by_cases z:d.op=5
 .rw[Af z];rw[A2 (by omega)]at g;let⟨j,M,f,s,_,yG,r⟩:=xf.sw z
  rw[J0 f,J0 s];refine⟨λ_=> ?_,λJ=>BF B J⟩;let⟨x,F,G,I⟩:=p _ g (ot q _ z f s (xQ j (AdU f)) (by omega) (xJ r))
  exact⟨x,w,F,G,o.PA (XW _ _ _ _ _),I⟩
 rw[Ad z];let⟨xV,r⟩:=xf.aG W Z z
 have r:=xJ r;let⟨j,f,xN⟩:=xn 0 (by omega)
 have xm:Cu xv 0=j:=J0 f;by_cases xr:d.op=1\/d.op=2\/d.op=3
 .rw[A0 xr]at g;have yA:=N.Ld (by omega);have x3:xv=[j]:=by cases xv<;>grind
  refine Ut ?_ o (p _ g (og q r N xr x3));unfold E7;grind
 rw[A2 xr]at g;by_cases V:d.op=4
 .let⟨ye,yf,yg⟩:=xV.Rz V
  refine Ut ?_ o (p _ g (oq q _ V r ye yf yg));unfold E7;grind
 by_cases xa:d.op=6
 .have yc:=N.M3 Om;let⟨M,s,yd⟩:=xn 1 (by omega)
  refine Ut ?_ o (p _ g (ou q _ xa r f s));unfold E7;rw[Ad V,Af xa,xm,J0 s]
 by_cases xi:d.op=7;.refine Ut ?_ o (p _ g (ov q _ xi r f));unfold E7;grind
 by_cases xh:d.op=10;.refine Zt (j:=(Er k.Am j).1) (n:=(Er k.Am j).2.1) (f:=(Er k.Am j).2.2) ?_ o (p _ g (oh q _ xh r f (by rw[xb];exact y.W.Fj)));unfold E7;rw[Ad V,Ad xa,Ad xi,Af xh,xm,XI P];rfl
 by_cases xq:d.op=12
 .have yc:=N.M3 Om;let⟨M,s,yd⟩:=xn 1 (by omega)
  refine Zt (j:=(Eb k.Am j M (1000*a+c)).1) (n:=(Eb k.Am j M (1000*a+c)).2.1) (f:=(Eb k.Am j M (1000*a+c)).2.2) ?_ o (p _ g (ol q _ xq r f s (by rw[xb];exact y.W.Fj) (by grind) (by omega) (by omega)));unfold E7;rw[Ad V,Ad xa,Ad xi,Ad xh,Af xq,xm,J0 s,XI P];rfl
 by_cases xA:d.op=13;.refine Zt (j:=k.Am) (n:=L2 k.Am j) (f:=0) ?_ o (p _ g (om q _ xA r f (by grind)));unfold E7;rw[Ad V,Ad xa,Ad xi,Ad xh,Ad xq,Af xA,xm,XI P];rfl
 refine Ut ?_ o (p _ g (oo q _ Om r f));unfold E7;grind
end
section
variable{t:EC} {h:G} {e:Ai} {y:C (C (C K))} {z:K} {v s:T->Prop} {u:F}
theorem eG(c:Bj t h e y z s){b:C A5}(d:Aw h u A5.c 2 b){a:D}(i:b.l<=a\/z≠0):jj W9 35 3 [u,.n a,.p t.x 0] h=jj W9 35 2 [.p t.x 0] h:=by
 let⟨m,_,j,l⟩:=c.Hw
 have k:=Cp d;rw[K5.2.2.2.1];by_cases f:a<(b.l:K)
 .have g:¬z=0:=by grind
  simp only[QY,QB, *]
 .simp only[QY,QB, *]
theorem fj(I:BD t.l){a:Ai}(m:G8 t.l a):∀(M b:D){h:G}{y:C (C (C K))},b+M=(Br t.l a).l->(C3 t.l (Br t.l a) (a.round+1) ⟨a.Ac,a.Am,a.round+1,a.AA⟩ b).2=0->Bj t h (C3 t.l (Br t.l a) (a.round+1) ⟨a.Ac,a.Am,a.round+1,a.AA⟩ b).1 y 0 (λc=>v c\/¬As u c)->CJ (C3 t.l (Br t.l a) (a.round+1) ⟨a.Ac,a.Am,a.round+1,a.AA⟩ b).1 y->Aw h u A5.c 2 (Br t.l a)->(Br t.l a).l<1000000000->((C3 t.l (Br t.l a) (a.round+1) ⟨a.Ac,a.Am,a.round+1,a.AA⟩ (Br t.l a).l).2=0->∃d x,jj W9 35 3 [u,.n b,.p t.x 0] h=jj W9 35 2 [.p t.x 0] d/\Bj t d (C3 t.l (Br t.l a) (a.round+1) ⟨a.Ac,a.Am,a.round+1,a.AA⟩ (Br t.l a).l).1 x 0 (λc=>v c\/¬As u c)/\CJ (C3 t.l (Br t.l a) (a.round+1) ⟨a.Ac,a.Am,a.round+1,a.AA⟩ (Br t.l a).l).1 x/\Bo (λc=>v c\/¬As u c) h d)/\((C3 t.l (Br t.l a) (a.round+1) ⟨a.Ac,a.Am,a.round+1,a.AA⟩ (Br t.l a).l).2≠0->∃d xd x,jj W9 35 3 [u,.n b,.p t.x 0] h=jj W9 35 2 [.p t.x 0] d/\Bj t d xd x (C3 t.l (Br t.l a) (a.round+1) ⟨a.Ac,a.Am,a.round+1,a.AA⟩ (Br t.l a).l).2 (λc=>v c\/¬As u c)/\Bo (λc=>v c\/¬As u c) h d)
 |0,b,h,y,xg,Q,g,E,p,xa=>by
  have:b=(Br t.l a).l:=by omega
  subst this;exact⟨λ_=>⟨h,y,eG g p Om,g,E,λ_ _=>B⟩,λxn=>BF Q xn⟩
 |M+1,b,h,y,xg,Q,g,E,p,xa=>by
  have Z:b<(Br t.l a).l:=by omega
  let⟨xF,o⟩:=Bb Z
  have q:=Oy I m.X m.r0 b (by omega) Q;obtain⟨S,T,rfl,Y,xh⟩:=Ve (AdU o);have xl:¬∃U,U<b/\(Br t.l a)[U]? =A ⟨S,T⟩:=by
   rintro⟨U,xx,xi⟩
   have xk:(Br t.l a).Nodup:=XO t.l a.Ac _
   have:=(Af6 (by omega) xk).1 (xi.t o.s)
   omega
  let⟨xo,xp⟩:=qH I q.X g E (Aen Y q.Dj.A7) (ce (m.X.MZ m.X.W.AA:BY t.l ⟨a.Ac,a.Am,a.round+1,a.AA⟩) q.Dj (a:=S) (b:=T) Y xl xh) (n:=a.round+1) (by have:=m.r0;omega)
  have X:=ZY (b:=t.l) (d:=a.round+1) (c:=⟨a.Ac,a.Am,a.round+1,a.AA⟩) o;rw[Ad Om]at X;let⟨xJ,xA,xy,xB⟩:=g.Hw
  have xC:h.Ap t.x 3=A (.n (a.round+1)):=by
   let⟨xD,xt,xc,xw⟩:=g
   rw[Ay xc.M 3];show A (F.n (C3 t.l (Br t.l a) (a.round+1) ⟨a.Ac,a.Am,a.round+1,a.AA⟩ b).1.round)=_;rw[(q.Dj.round:(C3 t.l (Br t.l a) (a.round+1) ⟨a.Ac,a.Am,a.round+1,a.AA⟩ b).1.round=a.round+1)]
  have xz:=Cp p;let⟨xu,J⟩:=CD (f:=A5.c) (w:=2) (λ_=>B) p o
  have xE:=J.AL (f:=A5.c) (λ_=>B) o;have xv:=Cm Z;have xb:∀{d:G},Bo (λc=>v c\/¬As u c) h d->(∀c,v c\/¬As u c->Lv d c)->Aw d u A5.c 2 (Br t.l a):=λxs xq=>p.Ar P;by_cases V:(F6 t.l (C3 t.l (Br t.l a) (a.round+1) ⟨a.Ac,a.Am,a.round+1,a.AA⟩ b).1 ⟨S,T⟩ (a.round+1)).2=0
  .let⟨N,W,xj,n,xr,r⟩:=xo V
   have xf:(C3 t.l (Br t.l a) (a.round+1) ⟨a.Ac,a.Am,a.round+1,a.AA⟩ (b+1)).2=0:=by grind
   have xG:jj W9 35 3 [u,.n b,.p t.x 0] h=jj W9 35 3 [u,.n (b+1:D),.p t.x 0] N:=by rw[K5.2.2.2.1];simp only[QY,QB,K5.2.2.2.2.1,H J.ia,H (W8 t.x),K5.2.2.2.2.2.1,H (Bh (a:=b) (by omega)), *]
   let⟨xH,xI⟩:=fj I m M (b+1) (by omega) xf (by rw[X];exact n) (by grind) (xb r λc R=>n.C4 R) xa
   grind
  .have xm:(C3 t.l (Br t.l a) (a.round+1) ⟨a.Ac,a.Am,a.round+1,a.AA⟩ (b+1)).2≠0:=by grind
   rw[(ZX xm (Br t.l a).l (by omega))];refine⟨Om,λ_=> ?_⟩;let⟨N,xe,W,xj,n,r⟩:=xp V
   refine⟨N,xe,W,?_,by grind,r⟩;rw[<-eG n (xb r λc R=>n.C4 R) (a:=b+1) Om,K5.2.2.2.1];simp only[QY,QB,K5.2.2.2.2.1,H J.ia,H (W8 t.x),K5.2.2.2.2.2.1,H (Bh (a:=b) (by omega)), *]
theorem fU(n:BD t.l){Z xA:D}(xt:Z=400)(g:G8 t.l e)(o:Bj t h e y 0 v)(xd:CJ e y):((Br t.l e).l=0->∃d,W9 (pos 35) [.p t.x 0] h=A (.b Aa,d)/\Bj t d e y 0 v/\Bo v h d)/\((Br t.l e).l≠0->∀j,KH t.l Z xA e=A j->(j.2=0->∃d q,W9 (pos 35) [.p t.x 0] h=A (.b L,d)/\Bj t d j.1 q 0 v/\CJ j.1 q/\Bo v h d)/\(j.2≠0->∃d xn q,W9 (pos 35) [.p t.x 0] h=A (.b L,d)/\Bj t d xn q j.2 v/\Bo v h d)):=by
 have xs:∀c,v c->Lv h c:=λc f=>o.C4 f;let⟨xS,xM,xk,xP⟩:=o
 let⟨u,V,xv,I,w,xq⟩:=qG n xk g.X.W.sh
 have xz:=Cp I;constructor
 .intro xm;have T:((Br t.l e).l:K)=0:=by omega
  refine⟨V,AZ B B ?_,o.ext w,P⟩;rw[K5.1];simp only[QY,xv,xz,T]
 .intro xm j k;have T:¬((Br t.l e).l:K)=0:=by omega
  have xu:=cc (b:=⟨t.l,[],0,.h⟩) g.X.W.sh (bw n g.X);have xa:Bj t V e y 0 (λc=>v c\/¬As u c):=(o.V w).sub λc f=>by
   rcases f with f|f;.grind
   .exact .j ⟨λxw=>f (xq c xw),I.Cz f⟩
  let⟨xE,xj,M,xr⟩:=xa
  have xR:=M.M;have xO:=F2 (a:=e.round) (b:=1) (by have:=g.r0;omega) (by have:=g.rf;have:=g.X.W.AA;omega);let⟨W,xT,xl,xe⟩:=M.Yj (e.round+1)
  let⟨N,Q⟩:=xe.Fp (by grind) xr
  have xb:Bj t W ⟨e.Ac,e.Am,e.round+1,e.AA⟩ y 0 (λc=>v c\/¬As u c):=⟨xE,xj,xl,N⟩;have xB:=I.Ar λc f l=>⟨Q c (.j l),(N c (.j l)).1⟩;let⟨xG,xH⟩:=fj (v:=v) n g (Br t.l e).l 0 (by omega) B xb (xd.PA (H1.of B)) xB xu
  have xF:∀{J:R},jj W9 35 3 [u,.n ((0:D):K),.p t.x 0] W=J->xx W9 35 [.p t.x 0] h=J:=λ{J} xQ=>by rw[K5.1];simp only[QY,K5.2.1,H (W8 t.x), *];grind
  have xL:=λc f=>(Q c (.i f)).t (w.M (xs c f));unfold KH at k;simp only[]at k;by_cases p:(C3 t.l (Br t.l e) (e.round+1) ⟨e.Ac,e.Am,e.round+1,e.AA⟩ (Br t.l e).l).2=0
  .rw[Ad Om]at k;let⟨r,U,X,m,xf,xh⟩:=xG p
   have xc:=Oy n g.X g.r0 _ Om p;let⟨xI,xC,xy,xD⟩:=m.Hw
   let⟨xJ,xK⟩:=gb n xt k xc.X m xf
   have xN:∀{i:G},W9 (pos 58) [.p t.x 0] r=A (.AB [],i)->jj W9 35 2 [.p t.x 0] r=A (.b L,i):=λ{i} Y=>by rw[K5.2.2.1];simp only[QY,K5.2.2.2.2.2.2, *]
   constructor
   .intro l;let⟨i,E,Y,x,xg,xi⟩:=xJ l
    exact⟨i,E,AZ B B P,x.sub P,xg,P⟩
   .intro l;let⟨i,xp,E,Y,x,xi⟩:=xK l
    exact⟨i,xp,E,AZ B B P,x.sub P,P⟩
  .rw[Af p]at k;cases k
   refine⟨Om,λ_=> ?_⟩;let⟨r,xo,U,X,m,xh⟩:=xH p
   let⟨xI,xC,xy,xD⟩:=m.Hw
   refine⟨r,xo,U,AZ B B (xF (X.t ?_)),m.sub P,P⟩;rw[K5.2.2.1];simp only[QY,K5.2.2.2.2.2.2, *]
end
section
variable{t:EC} {u:T->Prop}
theorem eH{a:G}{d:Ai}{e:C (C (C K))}{b:K}(c:Bj t a d e b u):jj W9 70 1 [.p t.x 0] a=A (.n b,a):=by
 let⟨f,_,_,_⟩:=c.Hw
 rw[Pw.2.1];simp only[QY, *]
theorem hO(r:BD t.l){x y:D}(M:x=400):∀{F c:D}{e:G}{a:Ai}{p:C (C (C K))}{d:Ai×K},G8 t.l a->c<=a.round->Bj t e a p 0 u->CJ a p->HW t.l x y F a=A d->(d.2=0->∃l v,jj W9 70 2 [.n (-1),.n c,.p t.x 0] e=A (.n 0,l)/\Bj t l d.1 v 0 u/\CJ d.1 v/\Bo u e l)/\(d.2≠0->∃l R v,jj W9 70 2 [.n (-1),.n c,.p t.x 0] e=A (.n d.2,l)/\Bj t l R v d.2 u/\Bo u e l)
 |0,c,e,a,p,d,k,V,z,E,b=>by cases b
 |F+1,c,e,a,p,d,k,V,z,E,b=>by
  have xc:=k.X.W.AA;have xd:=k.rf;have xa:¬(c:K)= -1:=by omega
  let⟨xm,xg,xe,xi⟩:=z.Hw
  let⟨T,U⟩:=fU r (xA:=y) M k z E
  unfold HW at b;by_cases o:(Br t.l a).l=0
  .rw[Af o]at b;cases b
   let⟨h,w,g,s⟩:=T o
   refine⟨λ_=>⟨h,p,?_,g,E,s⟩,λf=>BF B f⟩;rw[Pw.2.2.1];simp only[QY,QB, *];exact eH g
  .rw[Ad o]at b
   cases j:KH t.l x y a with
   |none=>rw[j]at b;cases b
   |some f=>
    rw[j]at b;have b:(if f.2≠0 then A f else HW t.l x y F f.1)=A d:=b;let⟨Y,Z⟩:=U o f j
    have X:∀{h:G},W9 (pos 35) [.p t.x 0] e=A (.b L,h)->jj W9 70 2 [.n (-1),.n c,.p t.x 0] e=jj W9 70 2 [.n (-1),.n ((c+1:D):K),.p t.x 0] h:=λ{h} w=>by rw[Pw.2.2.1];simp only[QY,QB,Pw.2.2.2.1,Pw.2.2.2.2,H (Bh (a:=c) (by omega)), *]
    by_cases m:f.2=0
    .rw[Ad (λq=>q m)]at b;let⟨h,J,w,g,Q,s⟩:=Y m
     have N:=VJ r k o j m;have W:(c+1)<=f.1.round:=by
      have:f.1.round=a.round+1:=by
       unfold KH at j;simp only[]at j;by_cases I:(C3 t.l (Br t.l a) (a.round+1) ⟨a.Ac,a.Am,a.round+1,a.AA⟩ (Br t.l a).l).2=0;.rw[Ad (λq=>q I)]at j;have P:=Oy r k.X k.r0 _ (CK _) I;exact(UH j).2.1.t P.Dj.round
       .grind
      omega
     let⟨xk,xl⟩:=hO r M N W g Q b
     constructor;.grind
     .grind
    .rw[Af m]at b;cases b
     refine⟨λq=>BF q m,λ_=> ?_⟩;let⟨h,S,J,w,g,s⟩:=Z m
     let⟨xn,xh,xf,xj⟩:=g.Hw
     have xb:¬((c+1:D):K)= -1:=by omega
     refine⟨h,S,J,(X w).t ?_,g,s⟩;rw[Pw.2.2.1];simp only[QY,QB, *];exact eH g
theorem qT(r:BD t.l){n E y:D}(w:n=400){d:G}{e:Ai}{m:C (C (C K))}{b:Ai×K}(l:G8 t.l e)(o:Bj t d e m 0 u)(p:CJ e m)(x:HW t.l n E y e=A b):(b.2=0->∃a f,W9 (pos 70) [.p t.x 0,.n (-1)] d=A (.n 0,a)/\Bj t a b.1 f 0 u/\CJ b.1 f/\Bo u d a)/\(b.2≠0->∃a s f,W9 (pos 70) [.p t.x 0,.n (-1)] d=A (.n b.2,a)/\Bj t a s f b.2 u/\Bo u d a):=by
 let⟨F,H⟩:=hO (c:=0) r w l l.r0 o p x
 constructor
 .intro k;let⟨j,i,z,g,q,h⟩:=F k
  exact⟨j,i,AZ B B (by rw[Pw.1];grind),g,q,h⟩
 .intro k;let⟨j,v,i,z,g,h⟩:=H k
  exact⟨j,v,i,AZ B B (by rw[Pw.1];grind),g,h⟩
end
def HP(b:C N)(a:D):C N:=D4::(b.t a++BG (b.l-a) AO)
theorem t5{b:C _}{a:D}{c:N}(h:b[a]? =A c):(HP b a).set (a+1) c=HP b (a+1):=by have d:=(AdN.1 h).1;unfold HP;rw[List.set_cons_succ,Af3 _ _ (by grind),Aef,show a-min a _=0 by omega,show b.l-a=(b.l-(a+1))+1 by omega,Ae4,Afs,<-FL h,AeN];rfl
theorem t4{b:C _}{a:D}(h:b[a]? =A AO):HP b (a+1)=HP b a:=by have c:=(AdN.1 h).1;unfold HP;rw[show b.l-a=(b.l-(a+1))+1 by omega,Ae4,<-FL h,AeN];rfl
theorem t3{b:C _}{a:D}(c:a<b.l):(HP b a)[a+1]? =A AO:=by unfold HP;grind
theorem rt{c:D}{a:N}(h:B5 c a)(b:a.Ak=0):a=AO:=by
 unfold B5 Gt at h;rw[Af Om]at h;let⟨d,e⟩:=a
 have b:d=0:=b;have h:e=0:=by grind
 rw[b,h];rfl
theorem Aa6{h:G}{l:C _}{b:T}{f:C AE}(j:h.M b=A (.I 8 [Z Ab.c l,.sn,Z AE.c f,.n 0,.n 0,.sn,.sn,.n 0]))(m:Lv h b):BZ (λd=>if d=b then .Ex else .C5) h l b ⟨[],f,0,0⟩ [] 0 (λ_=>.sn)where
 M:=j
 lv:=m
 B3:=Af B
 tg:=λi _ d n=>BF (Cg d) n
 Db:=λi=>by
  cases i with
  |Ac=>exact Aw.sn h
  |An a=>intro e;grind
  |AG a=>intro e;grind
  |AD a k=>intro g c;cases c
  |AS a=>intro e;grind
  |Bn=>exact Aw.sn h
  |A4 a=>intro g c;grind
  |B1 a k=>intro g o c;grind
  |Am=>exact Aw.sn h
  |Ex=>trivial
  |C5=>trivial
  |BC a=>trivial
theorem Aan{l:C Ab}{a:Ab}{b:K}(d:C AE)(e:C N):CJ ⟨[{Dl l a b (-1) (-1) 0 with An:=e}],d,0,0⟩ [In l a.Av]:=by
 refine CJ.PA ((⟨B,P,P⟩:CJ ⟨[],d,0,0⟩ []).Km (i:=l) a b (-1) (-1) 0 D4) ⟨B,λc=> ?_⟩
 cases c with
 |zero=>exact⟨B,B,B,B⟩
 |succ c=>exact⟨B,B,B,B⟩
section
variable{l:C Ab} {h:G} {t:T->Prop}
theorem lG(w:BD l){xq xV:D}(xN:xq=400){e:AQ}(xb:JS (I8 l) e=0)(E:(Co e.l e.BT).2.2=0){u:Ai×K}(xp:Ib l xq xV (Ip l e)=A u)(xK:∀M,t M->Lv h M){S:T}(xI:h.M S=A (.I 1 (Bp (Co e.l e.BT).1))){W:D}(yl:CH l GN=W):∃(V:EC)(v:G)(xk:Ai)(xl:C (C (C K))),V.l=l/\jj W9 34 5 [Z Ab.c l,.p S 0,.n W,Z N.c (Co e.l e.BT).2.1] h=A (.AB [.p V.x 0,.n u.2],v)/\Bj V v xk xl u.2 t/\(u.2=0->xk=u.1/\CJ u.1 xl)/\Bo t h v:=by
 let⟨g,f,yk,xm,yn,ym,x7,x4⟩:=cx w xb E
 have xC:g=W:=by omega
 subst xC;have xh:=cy w xb E;let⟨yd,ye,yf,yg⟩:=Um xb
 let⟨x5,yq,x0⟩:=dV (a:=e) (by omega) E
 have yc:=Y5 (a:=e) (by omega) E;have xF:Ip l e=⟨[{Dl l f g (-1) (-1) 0 with An:=D4::(Co e.l e.BT).2.1}],(Co e.l e.BT).1,0,0⟩:=by unfold Ip;grind
 generalize(Co e.l e.BT).2.1=c at*;generalize(Co e.l e.BT).1=j at*;have x3:=w.Bc g f xm;have xZ:h.AL S 0 1=A (Bp j):=BB xI;have xx:Cb [.sn,.sn,.n 0,.n 0] [(1,1)] [.S (Bp j)]=A (.S [.sn,Z AE.c j,.n 0,.n 0]):=B;have xy:Cb [.sn,.sn,.sn,.n 0,.n 0,.sn,.sn,.n 0] [(0,1),(1,4)] [Z Ab.c l,.S [.sn,Z AE.c j,.n 0,.n 0]]=A (.S [Z Ab.c l,.sn,Z AE.c j,.n 0,.n 0,.sn,.sn,.n 0]):=B;let⟨k,xn,xP,xL,xr,xH,xU,xW⟩:=box h (.I 8 [Z Ab.c l,.sn,Z AE.c j,.n 0,.n 0,.sn,.sn,.n 0])
 have U:∀(xf:F->G->R),bl (.p h.next 0) (h.V (.I (Bq (F.I (.S [Z Ab.c l,.sn,Z AE.c j,.n 0,.n 0,.sn,.sn,.n 0]))) (F.I (.S [Z Ab.c l,.sn,Z AE.c j,.n 0,.n 0,.sn,.sn,.n 0])))) xf=xf (.p k 0) xn:=Dy h _ xP xL;have xw:=Aa6 xH xU;have xs:Bj ⟨l,k⟩ xn ⟨[],j,0,0⟩ [] 0 t:=⟨_,_,xw,λM xO=>⟨xr.lv (xK M xO),Ad (λyh=>xW (by grind))⟩⟩;let⟨_,xJ⟩:=ah w xs B (AeA _) xm (-1) (-1) 0 D4
 let⟨z,xR,y,x8⟩:=xJ (by grind)
 have xB:J6 l f g (-1) (-1) 0 D4={Dl l f g (-1) (-1) 0 with An:=HP c 0}:=by unfold J6 HP;rw[show f.An.n=c.l+1 by omega,Ae4,Afs];rfl
 have y:Bj ⟨l,k⟩ z ⟨[J6 l f g (-1) (-1) 0 D4],j,0,0⟩ [In l f.Av] 0 t:=y;rw[xB]at y;have yo:c.l<1000000:=by omega
 let⟨⟨⟩,xa,X,xe,ya⟩:=Dh (h:=c.l) (f:=λd _ h=>jj W9 34 2 [Z N.c c,.n d,.p k 0] h) (g:=λd _ v=>Bj ⟨l,k⟩ v ⟨[{Dl l f g (-1) (-1) 0 with An:=HP c d}],j,0,0⟩ [In l f.Av] 0 t/\Bo t z v)
  (λd _ xo xc xu=>by
   let⟨xt,yb⟩:=xu
   let⟨o,J⟩:=Bb xc
   have xA:=Cm xc;have xS:A9 2 xo [.pi (N.c o)]=A (.S (N.c o)):=B;have yp:=t3 xc;have xM:d+1<(HP c d).l:=by grind
   let⟨p,r,q,xg⟩:=aj xt (a:=0) (b:=d+1) (by grind) xM o
   have r:W9 (pos 77) [.p k 0,.n 0,.n (d+1:D),.S (N.c o)] xo=_:=r;have xD:(FG (Ai.at ⟨[{Dl l f g (-1) (-1) 0 with An:=HP c d}],j,0,0⟩ 0) (d+1) o).1={Dl l f g (-1) (-1) 0 with An:=HP c (d+1)}:=by
    have xX:GQ {Dl l f g (-1) (-1) 0 with An:=HP c d} (d+1)=AO:=by show((HP c d)[d+1]?).g AO=AO;grind
    show(FG {Dl l f g (-1) (-1) 0 with An:=HP c d} (d+1) o).1=_;by_cases xj:o.Ak=0;.rw[Xg (.i xj)];have:=rt (x0 o (AdU J)) xj;subst this;rw[t4 J]
    .rw[gu (by rintro(U|U);grind;exact U (by rw[xX];rfl))];show({Dl l f g (-1) (-1) 0 with An:=(HP c d).set (d+1) o})=_;rw[t5 J]
   have q:Bj ⟨l,k⟩ p ⟨[(FG (Ai.at ⟨[{Dl l f g (-1) (-1) 0 with An:=HP c d}],j,0,0⟩ 0) (d+1) o).1],j,0,0⟩ [In l f.Av] 0 t:=q;rw[xD]at q;refine⟨(),p,?_,q,P⟩;show jj W9 34 2 _ _=jj W9 34 2 _ _;have xQ:=Bh (a:=d) (by omega);rw[G1.2.2.2.2.2.2.2.2.2.1];simp only[QY,DF N.c c,xA,G1.2.2.2.2.2.2.2.2.2.2.1,xQ,HZ J,xS,r,G1.2.2.2.2.2.2.2.2.2.2.2])
  (b:=()) (a:=z) ⟨y,P⟩
 have X:jj W9 34 2 [Z N.c c,.n 0,.p k 0] z=jj W9 34 2 [Z N.c c,.n c.l,.p k 0] xa:=X;have xE:HP c c.l=D4::c:=by unfold HP;grind
 rw[xE]at xe;rw[xF]at xp xh;have xv:=Aan (l:=l) (a:=f) (b:=g) j (D4::c);let⟨x1,x2⟩:=gb w xN xp xh xe xv
 have xz:=CA c.l;have x9:Bo t h xa:=by grind
 have yj:∀{p:G}{Y:K},W9 (pos 58) [.p k 0] xa=A (.AB [],p)->p.Ap k 7=A (.n Y)->jj W9 34 5 [Z Ab.c l,.p S 0,.n g,Z N.c c] h=A (.AB [.p k 0,.n Y],p):=λ{p Y} r xd=>by rw[G1.2.2.2.2.2.2.2.1];simp only[↓U,↓Q,↓QT,AdM,↓H xZ,↓H xx,↓H xy,↓ai.H B,↓H xR];rw[X,G1.2.2.2.2.2.2.2.2.2.1];simp only[QY,DF N.c c,xz,G1.2.2.2.2.2.2.2.2.1,r,xd]
 by_cases xi:u.2=0
 .let⟨p,xG,r,q,x6,xg⟩:=x1 xi
  let⟨o,xY,xT,xd⟩:=q.Hw
  grind
 .let⟨p,yi,xG,r,q,xg⟩:=x2 xi
  let⟨o,xY,xT,xd⟩:=q.Hw
  grind
end
def Ow(a:C K):Ah:=Ao ((a.l:K)>40)
def a5{b:AQ}{c:G}{f:T}(n:c.M f=A (.I 2 (AQ.c b)))(q:b.l.l<1000000000)(d e:F):∀(j a:D),a+j=b.l.l->((b.l.d a).any Ow=Aa->jj W9 34 7 [.n a,.p f 0,d,e] c=jj W9 34 6 [.p f 0,d,e] c)/\((b.l.d a).any Ow=L->jj W9 34 7 [.n a,.p f 0,d,e] c=A (.AB [.pn,.n 5],c))
 |0,a,p=>by
  have:a=b.l.l:=by omega
  subst this;have s:=CA b.l.l;refine⟨λ_=> ?_,λr=>by grind⟩;rw[G1.2.2.2.2.1];simp only[QY,H (DF Cv b.l), *]
 |j+1,a,p=>by
  have l:a<b.l.l:=by omega
  let⟨g,m,o⟩:=Ds l
  have k:=Cm l;let⟨u,v⟩:=a5 n q d e j (a+1) (by omega)
  rw[o,AfB];by_cases h:(g.l:K)>40;.have:Ow g=L:=A0 h;rw[this,Bool.true_or];refine⟨λr=>(by grind),λ_=> ?_⟩;rw[G1.2.2.2.2.1];simp only[QY,H (DF Cv b.l),k,G1.2.2.2.2.2.1,H (I9 m),Mm,H (DF Be g),h, *]
  .have:Ow g=Aa:=A2 h;rw[this,Ae6];have t:jj W9 34 7 [.n a,.p f 0,d,e] c=jj W9 34 7 [.n ((a+1:D):K),.p f 0,d,e] c:=by rw[G1.2.2.2.2.1];simp only[QY,H _,k,G1.2.2.2.2.2.1,H (I9 m),Mm,H (DF Be g),h,G1.2.2.2.2.2.2.1,H (Bh (a:=a) (by omega)), *]
   grind
def fS{d:C Ab}(Y:Cl d){xn xF:D}(xD:xn=400)(c:AQ)(xw:c.l.l<=2000000)(xM:c.BT.l<=2000000){M:Ai×K}(i:JA d xn xF c=A M)(m:G){p:T->Prop}(xN:∀k,p k->Lv m k):∃xp X,W9 (pos 34) [Z Ab.c d,.S (AQ.c c)] m=A (.AB [xp,.n M.2],X)/\Bo p m X/\(∀e,p e->Lv X e)/\(M.2=0->∃(x:EC)(xj:C (C (C K))),x.l=d/\xp=.p x.x 0/\Bj x X M.1 xj 0 p/\CJ M.1 xj):=by
 let⟨k,f,xE,J,xI,W,xT,xV⟩:=box m (.I 2 (AQ.c c))
 have l:∀(xi:F->G->R),bl (.p m.next 0) (m.V (.I (Bq (F.I (.S (AQ.c c)))) (F.I (.S (AQ.c c))))) xi=xi (.p k 0) f:=Dy m (.I 2 (AQ.c c)) xE J;have q:=ga d Y;have S:Bo p m f:=by grind
 have s:∀e,p e->Lv f e:=by grind
 unfold JA at i;by_cases t:D5 d=0
 .rw[Ad (λj=>j t)]at i;rw[t]at q;have P:=HU t;let⟨o,g,xe,r,xQ⟩:=P.K_
  have xP:=(P.Bc o g r).An;have xC:I8 d=g.An-1:=by unfold I8;rw[xe,AdR,r]
  have v:=SA d [109,97,105,110] (by have:=P.A7;omega);have xA:CH d [109,97,105,110]=o:=xe;rw[xA]at v;have xd:Bl 1 [.pi (Ab.c g)]=A (.pi ((Ab.c g).d 1)):=B;have xg:AM f [.pi ((Ab.c g).d 1)]=A (.n g.An):=B;have xc:=FA (a:=g.An) (b:=1) (by omega) (by omega);have U:f.Ap k 0=A (Z Cv c.l):=Ay W 0;have xa:f.Ap k 1=A (Z CN c.BT):=Ay W 1;have xh:=DF Cv c.l;have xm:=DF CN c.BT;rw[xC]at i;by_cases E:JS (g.An-1) c=0
  .rw[Ad (λj=>j E)]at i;let⟨I,V,xb,xu⟩:=Um E
   have y:(c.l.d 0).any Ow=Aa:=by
    rw[Ad7]
    cases J:c.l.any Ow with
    |false=>rfl
    |true=>
     let⟨w,xf,Y⟩:=AfC.1 J
     have:=xu w xf;have Y:=Afg Y;omega
   have u:=(a5 W (by omega) (Z Ab.c d) (.n o) c.l.l 0 (by omega)).1 y;have u:jj _ _ 7 [.n 0,.p k 0,Z Ab.c d,.n o] f=jj W9 34 6 [.p k 0,Z Ab.c d,.n o] f:=u;have xt:¬(g.An-1>3):=by omega
   have xo:∀{w:R},jj W9 34 6 [.p k 0,Z Ab.c d,.n o] f=w->xx W9 34 [Z Ab.c d,.S (AQ.c c)] m=w:=λ{w} xf=>by rw[G1.1];simp only[↓l,↓Q,↓QT,AdM,↓q.H B,G1.2.1,↓v.H B,↓H (CB r),↓H xd,↓H xg,↓H xc,↓H U,↓H xh,I,↓H xa,↓H xm,V,xt,QB,G1.2.2.1];rw[u];grind
   have xk:=qF c.l c.BT xw (λw xf=>by grind);let⟨xW,xy,xl,xB,N,xv,xS,xU⟩:=box f (.I 1 (Bp (Co c.l c.BT).1))
   let⟨xH,xG⟩:=EL f (b:=1) [.sn] (c:=Bp (Co c.l c.BT).1) xl xB B B
   by_cases z:(Co c.l c.BT).2.2=0
   .rw[Ad (λj=>j z)]at i;let⟨x,xz,xK,xL,xO,xR,xq,xJ,xr⟩:=lG P xD (by grind) z i (t:=p) (λe h=>N.lv (s e h)) xv xe
    refine⟨.p x.x 0,xz,AZ B B (xo ?_),λe h=>(xr e h).t ((N.M (s e h)).t (S e h)),λe h=>xq.C4 h,λl=> ?_⟩;.rw[G1.2.2.2.1];simp only[QY,xH,U,xa,xk.H B,WT _ _ _,WV _ _ _,WW _ _ _,xl,xG,z];grind
    .grind
   .rw[Af z]at i;cases i
    refine⟨.pn,xy,AZ B B (xo ?_),λe h=>(N.M (s e h)).t (S e h),λe h=>N.lv (s e h),λl=>BF l z⟩;rw[G1.2.2.2.1];simp only[QY,xk.H B,H (WT _ _ _),H (WV _ _ _),H (WW _ _ _), *]
  .rw[Af E]at i;cases i
   refine⟨.pn,f,AZ B B ?_,S,s,λl=>BF l E⟩;unfold JS;rw[G1.1];by_cases I:c.l.l=g.An-1
   .by_cases V:c.BT.l=g.An-1
    .by_cases xb:g.An-1>3;.rw[Af (.j (.j xb))];simp only[QY,q.H B,G1.2.1,v.H B,H (CB r),QB, *]
     .rw[Ad (by grind)];have y:(c.l.d 0).any Ow=L:=by
       rw[Ad7]
       cases J:c.l.any Ow with
       |true=>rfl
       |false=>exfalso;apply E;unfold JS;rw[Ad (by grind),Ad];intro j;have j:c.l.any Ow=L:=j;rw[J]at j;cases j
      have u:=(a5 W (by omega) (Z Ab.c d) (.n o) c.l.l 0 (by omega)).2 y;have u:jj W9 34 7 [.n 0,.p k 0,Z Ab.c d,.n o] f=A (.AB [.pn,.n 5],f):=u;rw[Ad7]at y;have xs:(c.l.any λd=>Ao ((d.l:K)>40))=L:=y;rw[Af xs];simp only[↓l,↓Q,↓QT,AdM,↓q.H B,G1.2.1,↓v.H B,↓H (CB r),↓H xd,↓H xg,↓H xc,↓H U,↓H xh,I,↓H xa,↓H xm,V,xb,QB,G1.2.2.1];grind
    .rw[Af (.j (.i V))];simp only[QY,q.H B,G1.2.1,v.H B,H (CB r),QB, *]
   .rw[Af (.i I)];simp only[↓l,↓Q,↓QT,AdM,↓q.H B,G1.2.1,↓v.H B,↓H (CB r),↓H xd,↓H xg,↓H xc,↓H U,↓H xh,I,QB]
 .rw[Af t]at i;cases i
  refine⟨.pn,f,AZ B B ?_,S,s,λl=>BF l t⟩;rw[G1.1];simp only[Q,QT,AdM,q.H B,t,ZR, *]
def qB{j:C Ab}(xg:Cl j){r v N:D}(M:r=400)(g:AQ)(xb:g.l.l<=2000000)(xc:g.BT.l<=2000000){f:Ai×K}(c:Hr j r v N g=A f)(e:G){h:T->Prop}(J:∀k,h k->Lv e k):∃w p,W9 (pos 45) [Z Ab.c j,.S (AQ.c g)] e=A (.AB [w,.n f.2],p)/\Bo h e p/\(∀a,h a->Lv p a)/\(f.2=0->∃(d:EC)(E:C (C (C K))),d.l=j/\w=.p d.x 0/\Bj d p f.1 E 0 h/\CJ f.1 E):=by
 let⟨k,xd,xr,xq,y,xp,xs,xt⟩:=box e (.I 2 (AQ.c g))
 have xl:∀m n:F,CO 0 [.AB [m,n]]=A m:=λ_ _=>B
 have xm:∀m n:F,CO 1 [.AB [m,n]]=A n:=λ_ _=>B
 unfold Hr at c
 cases q:JA j r v g with
 |none=>rw[q]at c;cases c
 |some s=>
  rw[q]at c;have c:(if s.2≠0 then A s else HW j r v N s.1)=A f:=c;let⟨w,xe,xh,Y,U,V⟩:=fS xg M g xb xc q xd (p:=h) (λa b=>y.lv (J a b))
  by_cases i:s.2=0
  .rw[Ad (λk=>k i)]at c;obtain⟨d,xo,xf,rfl,Q,P⟩:=V i;let⟨xa,R⟩:=PL (λe=>HU e) q i
   have X:=HU xa;subst xf;rw[i]at xh;let⟨xj,xk⟩:=qT (t:=d) X M R Q P c
   have z:Bo h e xe:=by grind
   by_cases o:f.2=0
   .let⟨u,I,xi,l,W,t⟩:=xj o
    refine⟨.p d.x 0,u,AZ B B ?_,λa b=>(t a b).t (z a b),λa b=>l.C4 b,λ_=>⟨d,I,B,B,l,W⟩⟩;rw[UZ.1,o];simp only[QY,H (xl _ _),H (xm _ _),UZ.2, *]
   .let⟨u,xn,I,xi,l,t⟩:=xk o
    refine⟨.p d.x 0,u,AZ B B ?_,λa b=>(t a b).t (z a b),λa b=>l.C4 b,λx=>BF x o⟩;rw[UZ.1];simp only[QY,H _,H _,UZ.2, *]
  .rw[Af i]at c;cases c
   refine⟨.pn,_,AZ B B ?_,λa b=>(Y a b).t (y.M (J a b)),U,λx=>BF x i⟩;rw[UZ.1];simp only[QY,H _,H _, *]
section
variable{z:T->Bm} {l:C Ab} {x:T} {e:Ai} {v:C (C (C K))} {u:K} {t:Bm->F}
end
section
variable{t:EC} {h:G} {e:Ai} {y:C (C (C K))} {v:K} {u:T->Prop}
end
def K8(a b:Bt):Ah:=Ao (D6 a b<0)
def LF(b:Bt)(c:C Bt):C Bt:=c.takeWhile (λa=>K8 a b)++b::c.dropWhile (λa=>K8 a b)
def Ic(a c:C Bt):C Bt:=c.foldl (λa b=>LF b a) a
def LM:C Bf->C Bf->K->K->Ah
 |a::e,b::f,c,d=>if a.Ax≠b.Ax then Ao (a.Ax<b.Ax)else if a.Az≠b.Az then Ao (a.Az<b.Az)else LM e f c d
 |[],[],c,d=>Ao (c<d)
 |[],_::_,_,_=>L
 |_::_,[],_,_=>Aa
variable{b:G}
def Em{e:T}{d a:D}{c:C _}(f:b.M e=A (.I d c)):AM b [.p e a]=c[a]? :=X9 (f:=d) (by rw[f];rfl) a
def eT(a b:N):FT L [0,0] [.S a.c,.S b.c]=A (.b (!Ao (a=b))):=by simp[N.c];cases a;cases b;simp
def nO(a b:Bf):FT L [0,0] [.S a.c,.S b.c]=A (.b (!Ao (a=b))):=by simp[Bf.c];cases a;cases b;simp
def tP(b g:C N)(x:b.l=g.l)(y:b.l<1000000000)(c:G):∀d a,b.l-a=d->a<=b.l->jj W9 81 2 [B6 b.l,Z N.c b,Z N.c g,B6 a] c=A (.b (Ao (b.d a=g.d a)),c):=by
 intro d
 induction d with
 |zero=>
  intro a n o;have:¬(a:K)<b.l:=by omega
  rw[Q_.2.2.2.1];simp only[B6,D7,AdP,this,Ael,EF,AdZ,Ad3];rw[Q_.2.2.1,Ad1 (by omega),Ad1 (by omega)];rfl
 |succ d u=>
  intro a n o;have p:(a:K)<b.l:=by omega
  obtain⟨e,q,r⟩:=Ds (b:=b) (a:=a) (by omega);obtain⟨w,s,t⟩:=Ds (b:=g) (a:=a) (by omega);have j:=EZ (a:=N.c) (f:=2) (i:=.n) q B;have m:=EZ (a:=N.c) (f:=2) (i:=.n) s B;have v:∀(c:G)(e:N),A9 2 c [.pi e.c]=A (.S e.c):=λ_ _=>B;rw[Q_.2.2.2.1];simp only[B6,D7,AdP,p,Ad4,EF,Aea];rw[Q_.2.2.2.2.1];simp only[j,m,v,AdP,eT,EF,r,t];by_cases h:e=w;.simp only[h,Ad4,Ad8,AdZ,Ad3];rw[Q_.2.2.2.2.2];simp only[Lt,AdP,NK (a:=a) (by omega)];rw[show F.i .n ((a+1:D):K)=B6 ((a+1:D):K)from B,show F.i .n (b.l:K)=B6 b.l from B,u (a+1) (by omega) (by omega)];simp
  .simp[h]
def gg(a b:C N)(f:a.l<1000000000):AY 81 [Z N.c a,Z N.c b] (.b (Ao (a=b))):=Bu B B B ⟨G.Aq,by
 rw[Q_.1];simp only[DF,AdP,DW,EF];by_cases d:a.l=b.l
 .have c:(a.l:K)=b.l:=by omega
  simp only[c,Ad4,Ad8,AdZ,Ad3];rw[Q_.2.1];have:=tP a b d f G.Aq a.l 0 (by omega) (by omega);simp only[DF,AdP];exact this
 .have c:¬(a.l:K)=b.l:=by omega
  have:¬a=b:=λe=>d (by rw[e]);simp[c,this]⟩
def tK(b g:C Bf)(x:b.l=g.l)(y:b.l<1000000000)(c:G):∀d a,b.l-a=d->a<=b.l->jj W9 24 2 [Z Bf.c b,Z Bf.c g,B6 a] c=A (.b (Ao (b.d a=g.d a)),c):=by
 intro d
 induction d with
 |zero=>
  intro a n o;have:¬(a:K)<b.l:=by omega
  rw[Q2.2.2.2.1];simp only[B6,DF,D7,AdP,this,Ael,EF,AdZ,Ad3];rw[Q2.2.2.1,Ad1 (by omega),Ad1 (by omega)];rfl
 |succ d u=>
  intro a n o;have p:(a:K)<b.l:=by omega
  obtain⟨e,q,r⟩:=Ds (b:=b) (a:=a) (by omega);obtain⟨w,s,t⟩:=Ds (b:=g) (a:=a) (by omega);have j:=EZ (a:=Bf.c) (f:=2) (i:=.n) q B;have m:=EZ (a:=Bf.c) (f:=2) (i:=.n) s B;have v:∀(c:G)(e:Bf),A9 2 c [.pi e.c]=A (.S e.c):=λ_ _=>B;rw[Q2.2.2.2.1];simp only[B6,DF,D7,AdP,p,Ad4,EF,Aea];rw[Q2.2.2.2.2.1];simp only[j,m,v,AdP,nO,EF,r,t];by_cases h:e=w;.simp only[h,Ad4,Ad8,AdZ,Ad3];rw[Q2.2.2.2.2.2];simp only[Lt,AdP,NK (a:=a) (by omega)];rw[show F.i .n ((a+1:D):K)=B6 ((a+1:D):K)from B,u (a+1) (by omega) (by omega)];simp
  .simp[h]
def f8(a b:C Bf)(f:a.l<1000000000):AY 24 [Z Bf.c a,Z Bf.c b] (.b (Ao (a=b))):=Bu B B B ⟨G.Aq,by
 rw[Q2.1];simp only[DF,AdP,DW,EF];by_cases d:a.l=b.l
 .have c:(a.l:K)=b.l:=by omega
  simp only[c,Ad4,Ad8,AdZ,Ad3];rw[Q2.2.1];exact tK a b d f G.Aq a.l 0 (by omega) (by omega)
 .have c:¬(a.l:K)=b.l:=by omega
  have:¬a=b:=λe=>d (by rw[e]);simp[c,this]⟩
def tw(b g:C N)(v:b.l=g.l)(w:b.l<1000000000)(c:G):∀d a,b.l-a=d->a<=b.l->jj W9 67 2 [Z N.c b,Z N.c g,B6 a] c=A (.b (Ao (b.d a=g.d a)),c):=by
 intro d
 induction d with
 |zero=>
  intro a j m;have:¬(a:K)<b.l:=by omega
  rw[Q8.2.2.2.1];simp only[B6,DF,D7,AdP,this,Ael,EF,AdZ,Ad3];rw[Q8.2.2.1,Ad1 (by omega),Ad1 (by omega)];rfl
 |succ d s=>
  intro a j m;have n:(a:K)<b.l:=by omega
  let⟨e,o,p⟩:=Ds (b:=b) (a:=a) (by omega)
  let⟨u,q,r⟩:=Ds (b:=g) (a:=a) (by omega)
  have t:∀(c:G)(e:N),A9 2 c [.pi e.c]=A (.S e.c):=λ_ _=>B;rw[Q8.2.2.2.1];simp only[B6,DF,D7,AdP,n,Ad4,EF,Aea];rw[Q8.2.2.2.2.1];simp only[(EZ (a:=N.c) (f:=2) (i:=.n) o B),(EZ (a:=N.c) (f:=2) (i:=.n) q B),t,AdP,eT,EF,p,r];by_cases h:e=u;.simp only[h,Ad4,Ad8,AdZ,Ad3];rw[Q8.2.2.2.2.2];simp only[Lt,AdP,NK (a:=a) (by omega)];rw[show F.i _ _=B6 _ from B,s (a+1) (by omega) (by omega)];simp
  .simp[h]
def fF(a b:C N)(e:a.l<1000000000):AY 67 [Z N.c a,Z N.c b] (.b (Ao (a=b))):=Bu B B B ⟨G.Aq,by
 rw[Q8.1];simp only[DF,AdP,DW,EF];by_cases c:a.l=b.l
 .have d:a.l=b.l:=by omega
  simp only[d,Ad4,Ad8,AdZ,Ad3];rw[Q8.2.1];exact tw a b c e G.Aq a.l 0 (by omega) (by omega)
 .have:¬a=b:=by grind
  grind⟩
def tQ(b g:C (C N))(x:b.l=g.l)(E:b.l<1000000000)(y:∀c∈b,c.l<1000000000)(d:G):∀e a,b.l-a=e->a<=b.l->jj W9 82 2 [B6 b.l,Z Fh b,Z Fh g,.f (pos 81) [],B6 a] d=A (.b (Ao (b.d a=g.d a)),d):=by
 intro e
 induction e with
 |zero=>
  intro a o p;have:¬(a:K)<b.l:=by omega
  rw[Ra.2.2.2.1];simp only[B6,D7,AdP,this,Ael,EF,AdZ,Ad3];rw[Ra.2.2.1,Ad1 (by omega),Ad1 (by omega)];rfl
 |succ e v=>
  intro a o p;have q:(a:K)<b.l:=by omega
  let⟨c,r,s⟩:=Ds (b:=b) (a:=a) (by omega)
  let⟨j,t,u⟩:=Ds (b:=g) (a:=a) (by omega)
  have m:=EZ (a:=Fh) (f:=1) (i:=.n) t B;have w:∀(d:G)(c:C N),AM d [.pi (Fh c)]=A (Z N.c c):=λ_ _=>B;have n:=(gg c j P).at B;rw[Ra.2.2.2.1];simp only[B6,D7,AdP,q,Ad4,EF,Aea];rw[Ra.2.2.2.2.1];simp only[(EZ (a:=Fh) (f:=1) (i:=.n) r B),m,w,AdP,Kv,Ad5,n,Uu,EF,s,u];by_cases h:c=j;.simp only[h,Ad4,Ad8,AdZ,Ad3];rw[Ra.2.2.2.2.2];simp only[Lt,AdP,NK (a:=a) (by omega)];rw[show F.i _ _=B6 _ from B,show F.i _ _=B6 _ from B,v (a+1) (by omega) (by omega)];simp
  .simp[h]
def qN(a b:C (C N))(f:a.l<1000000000)(e:∀g∈a,g.l<1000000000):AY 82 [Z Fh a,Z Fh b,.f (pos 81) []] (.b (Ao (a=b))):=Bu B B B ⟨G.Aq,by
 rw[Ra.1];simp only[DF,AdP,DW,EF];by_cases c:a.l=b.l
 .have d:a.l=b.l:=by omega
  simp only[d,Ad4,Ad8,AdZ,Ad3];rw[Ra.2.1];simp only[DF,AdP];exact(tQ a b c f e G.Aq a.l 0 (by omega) (by omega))
 .have:¬a=b:=by grind
  grind⟩
def iA(a b:K):IN a b=0↔a=0/\b=0:=by unfold IN;omega
def Zf(a b:K):H6 a b=0↔a=b:=by unfold H6;omega
def m4(a b:Bf):Lo a b=0↔a=b:=by unfold Lo;rw[iA,Zf,Zf];cases a;cases b;simp
def eh:∀a b:C Bf,Ge a b=0↔a=b
 |[],[]=>by simp[Ge]
 |[],_::_=>by simp[Ge]
 |_::_,[]=>by simp[Ge]
 |d::a,e::b=>by
  have f:=m4 d e;by_cases c:d=e;.have:=f.2 c;subst c;simp[Ge,this,(eh a b)]
  .have:¬Lo d e=0:=by grind
   simp[Ge,this,c]
def m5(a b:Bt):D6 a b=0↔a=b:=by unfold D6;rw[iA,eh,Zf];cases a;cases b;simp
def tR(d q:C Bt)(Y:d.l=q.l)(xb:d.l<1000000000)(xa:∀c∈d,c.B4.l<1000000000):∀o b (a:G),d.l-b=o->b<=d.l->∃s,jj W9 83 2 [B6 d.l,Z Bt.c d,Z Bt.c q,.f (pos 84) [],B6 b] a=A (.b (Ao (d.d b=q.d b)),s):=by
 intro o
 induction o with
 |zero=>
  intro b a J M;have:¬(b:K)<d.l:=by omega
  rw[Rb.2.2.2.1];simp only[B6,D7,AdP,this,Ael,EF,AdZ,Ad3];rw[Rb.2.2.1,Ad1 (by omega),Ad1 (by omega)];exact⟨a,B⟩
 |succ o U=>
  intro b a J M;have N:(b:K)<d.l:=by omega
  let⟨c,Q,R⟩:=Ds (b:=d) (a:=b) (by omega)
  let⟨g,S,T⟩:=Ds (b:=q) (a:=b) (by omega)
  have E:=EZ (a:=Bt.c) (f:=2) (i:=.n) S B;have X:∀(a:G)(c:Bt),A9 2 a [.pi c.c]=A (.S c.c):=λ_ _=>B;have H:=(qP c g P).at B;have w:=WH (a:=2) (c:=a) (e:=a.next) (d:=[.sn,.i .n 0]) (b:=c.c) B B B;generalize t:(a.V _).set _ (.I 2 c.c)=j at w;have v:j.next=a.next.FI:=by rw[<-t];rfl
  have I:j.M a.next=A (.I 2 c.c):=by rw[<-t];simp
  have x:=WH (a:=2) (c:=j) (e:=a.next.FI) (d:=[.sn,.i .n 0]) (b:=g.c) P B B;generalize u:(j.V _).set _ _=e at x;have V:A9 2 e [.p a.next 0]=A (.S c.c):=by
   have:e.M a.next=A (.I 2 c.c):=by rw[<-u];simp[v,I]
   rw[F5,TE (b:=2) (e:=c.c) (by rw[this];rfl)];rfl
  have W:A9 2 e [.p a.next.FI 0]=A (.S g.c):=by
   have:e.M a.next.FI=A (.I 2 g.c):=by rw[<-u];simp
   rw[F5,TE (b:=2) (e:=g.c) (by rw[this];rfl)];rfl
  rw[Rb.2.2.2.1];simp only[B6,D7,AdP,N,Ad4,EF,Aea];rw[Rb.2.2.2.2.1];simp only[(EZ (a:=Bt.c) (f:=2) (i:=.n) Q B),E,X,AdP,O4,w,v,x,V,W,Kv,Ad5,H,Uu,EF,R,T,m5];by_cases r:c=g
  .simp only[r,Ad4,Ad8,AdZ,Ad3];rw[Rb.2.2.2.2.2];simp only[Lt,AdP,NK (a:=b) (by omega)];let⟨s,y⟩:=U (b+1) e (by omega) (by omega)
   refine⟨s,?_⟩;rw[show F.i _ _=B6 ((b+1:D):K)from B,show F.i .n (d.l:K)=B6 d.l from B,y];simp
  .simp only[r,Ael,Aet,Aea];exact⟨e,by simp[r]⟩
def qO(a b:C Bt)(f:a.l<1000000000)(e:∀g∈a,g.B4.l<1000000000):AY 83 [Z Bt.c a,Z Bt.c b,.f (pos 84) []] (.b (Ao (a=b))):=Bu B B B (by
 rw[Rb.1];simp only[DF,AdP,DW,EF];by_cases c:a.l=b.l
 .have d:a.l=b.l:=by omega
  simp only[d,Ad4,Ad8,AdZ,Ad3];rw[Rb.2.1];simp only[DF,AdP];exact(tR _ _ c f e _ 0 G.Aq (by omega) (by omega))
 .have:¬a=b:=by grind
  exact⟨G.Aq,by grind⟩)
def Hg(b:C N)(a:C (C N)):C F:=[Z N.c b,Z Fh a]
def tO(Q R:C N)(b e:C (C N))(S:b.l=e.l)(U:b.l<1000000000)(E:∀d∈b,d.l<1000000000)(c:G)(j m:T)(x:c.M j=A (.I 2 (Hg Q b)))(y:c.M m=A (.I 2 (Hg R e))):∀g a,b.l-a=g->a<=b.l->jj W9 25 2 [.p j 0,.p m 0,B6 a] c=A (.b (Ao (b.d a=e.d a)),c):=by
 have h:AM c [.p j 1]=A (Z Fh b):=Em x
 have q:AM c [.p m 1]=A (Z Fh e):=Em y
 intro g
 induction g with
 |zero=>
  intro a u v;have:¬(a:K)<b.l:=by omega
  rw[Q3.2.2.2.1];simp only[B6,EG,Ad2,h,DF,D7,AdP,this,Ael,EF,AdZ,Ad3];rw[Q3.2.2.1,Ad1 (by omega),Ad1 (by omega)];rfl
 |succ g M=>
  intro a u v;have w:(a:K)<b.l:=by omega
  let⟨d,o,H⟩:=Ds (b:=b) (a:=a) (by omega)
  let⟨p,I,J⟩:=Ds (b:=e) (a:=a) (by omega)
  have r:=EZ (a:=Fh) (f:=1) (i:=.n) o B;have s:=EZ (a:=Fh) (f:=1) (i:=.n) I B;have P:∀(c:G)(d:C N),AM c [.pi (Fh d)]=A (Z N.c d):=λ_ _=>B;have t:=(fF d p (E d (AdU o))).at B;rw[Q3.2.2.2.1];simp only[B6,EG,Ad2,h,DF,D7,AdP,w,Ad4,EF,Aea];rw[Q3.2.2.2.2.1];simp only[EG,Ad2,h,q,r,s,P,AdP,t,Uu,EF,H,J];by_cases n:d=p;.simp only[n,Ad4,Ad8,AdZ,Ad3];rw[Q3.2.2.2.2.2];simp only[Lt,AdP,NK (a:=a) (by omega)];rw[show F.i _ _=B6 _ from B,M (a+1) (by omega) (by omega)];simp
  .simp[n]
def ge(b d:C N)(a c:C (C N))(q:b.l<1000000000)(r:a.l<1000000000)(p:∀s∈a,s.l<1000000000):AY 25 [.S (Hg b a),.S (Hg d c)] (.b (Ao (b=d)&&Ao (a=c))):=Bu B B B (by
 have o:=(fF b d q).at B;have f:((G.Aq.V (.I 2 (Hg b a))).V (.I 2 (Hg d c))).M .h=A (.I 2 (Hg b a)):=by simp
 have g:((G.Aq.V (.I 2 (Hg b a))).V (.I 2 (Hg d c))).M (.o .h)=A (.I 2 (Hg d c)):=by simp
 rw[Q3.1];simp only[O4,Ww,GK,G.Gh,WJ,T.Vp];rw[show(Hg b a).l=2 from B,show(Hg d c).l=2 from B];generalize(G.Aq.V (.I 2 (Hg b a))).V (.I 2 (Hg d c))=e at f g;have h:e.Ap .h 0=A (Z N.c b):=Em f;have i:e.Ap .h 1=A (Z Fh a):=Em f;have j:e.Ap (.o .h) 0=A (Z N.c d):=Em g;have k:e.Ap (.o .h) 1=A (Z Fh c):=Em g;simp only[EG,Qm,Ad2,AdP,h,i,j,k,o,Uu,V3,DF,DW,ZH,EF];by_cases l:b=d
 .by_cases n:a.l=c.l
  .have m:a.l=c.l:=by omega
   subst l;simp[m,h,i,j,k];rw[Q3.2.1];have:=tO b b a c n r p e .h (.o .h) f g a.l 0 (by omega) (by omega);refine⟨e,?_⟩;simp only[Ad7]at this;simpa[B6]using this
  .have m:¬(a.l:K)=c.l:=by omega
   have:¬a=c:=by grind
   exact⟨e,by simp[l,m,this,h,i,j,k]⟩
 .exact⟨e,by simp[l]⟩)
def NS(a b:C1):Ah:=Ao (a.CQ=b.CQ)&&Ao (a.I=b.I)&&Ao (a.Dv=b.Dv)&&Ao (a.AA=b.AA)&&Ao (a.Kq=b.Kq)&&Ao (a.KL=b.KL)
def RJ(a:C1):Prop:=a.Dv.l<=200000/\a.CQ.l<=100000/\a.I.l<=100000/\(∀b∈a.I,b.l<=100000)/\∀c∈a.Dv,c.B4.l<=100000
def f7(a b:C1)(F:RJ a):AY 41 [.S a.c,.S b.c] (.b (NS a b)):=Bu B B B (by
 let⟨I,J,M,P,Q⟩:=F
 have q:=(gg a.CQ b.CQ (by omega)).at B;have r:=(qN a.I b.I (by omega) (λH E=>by grind)).at B;have f:=(qO a.Dv b.Dv (by omega) (λH E=>by grind)).at B;have d:((G.Aq.V (.I 7 a.c)).V (.I 7 b.c)).M .h=A (.I 7 a.c):=by simp
 have e:((G.Aq.V (.I 7 a.c)).V (.I 7 b.c)).M (.o .h)=A (.I 7 b.c):=by simp
 rw[sZ];simp only[O4,Ww,GK,G.Gh,WJ,T.Vp,C1.NY];generalize(G.Aq.V (.I 7 a.c)).V (.I 7 b.c)=c at d e;refine⟨c,?_⟩;have s:c.Ap .h 0=A (Z N.c a.CQ):=Em d;have g:c.Ap .h 1=A (Z Fh a.I):=Em d;have h:c.Ap .h 2=A (.i .n a.AA):=Em d;have i:c.Ap .h 3=A (.i .n a.Kq):=Em d;have j:c.Ap .h 4=A (.i .n a.KL):=Em d;have k:c.Ap .h 6=A (Z Bt.c a.Dv):=Em d;have t:c.Ap (.o .h) 0=A (Z N.c b.CQ):=Em e;have l:c.Ap (.o .h) 1=A (Z Fh b.I):=Em e;have m:c.Ap (.o .h) 2=A (.i .n b.AA):=Em e;have n:c.Ap (.o .h) 3=A (.i .n b.Kq):=Em e;have o:c.Ap (.o .h) 4=A (.i .n b.KL):=Em e;have p:c.Ap (.o .h) 6=A (Z Bt.c b.Dv):=Em e;simp only[EG,Qm,Ad2,Aev,AdP,s,g,h,i,j,k,t,l,m,n,o,p,q,f,V3];unfold NS;generalize Ao (a.CQ=b.CQ)=u at q⊢;generalize Ao (a.I=b.I)=v at r⊢;generalize Ao (a.Dv=b.Dv)=w at f⊢;by_cases x:a.AA=b.AA<;>by_cases y:a.Kq=b.Kq<;>by_cases z:a.KL=b.KL<;>cases u<;>cases v<;>cases w<;>simp-implicitDefEqProofs [x,y,z,r,f,g,l,h,i,j,k,m,n,o,p])
def Aa1(a b:Bt):a=b↔a.Ax=b.Ax/\a.B4=b.B4:=by cases a;cases b;simp[and_comm]
def tJ(c h:C1)(Y:c.Dv.l=h.Dv.l)(xa:c.Dv.l<1000000000)(S:∀a∈c.Dv,a.B4.l<1000000000)(e:G)(y E:T)(Q:e.M y=A (.I 7 c.c))(R:e.M E=A (.I 7 h.c)):∀n b,c.Dv.l-b=n->b<=c.Dv.l->jj W9 40 2 [.p y 0,.p E 0,B6 b] e=A (.b (Ao (c.Dv.d b=h.Dv.d b)),e):=by
 have g:e.Ap y 6=A (Z Bt.c c.Dv):=Em Q
 have o:e.Ap E 6=A (Z Bt.c h.Dv):=Em R
 intro n
 induction n with
 |zero=>
  intro b M N;have:¬(b:K)<c.Dv.l:=by omega
  rw[Q5.2.2.2.1];simp only[B6,EG,Qm,Ad2,g,DF,D7,AdP,this,Ael,EF,AdZ,Ad3];rw[Q5.2.2.1,Ad1 (by omega),Ad1 (by omega)];rfl
 |succ n W=>
  intro b M N;have P:(b:K)<c.Dv.l:=by omega
  obtain⟨a,I,t⟩:=Ds (b:=c.Dv) (a:=b) (by omega);obtain⟨d,V,u⟩:=Ds (b:=h.Dv) (a:=b) (by omega);have r:=EZ (a:=Bt.c) (f:=2) (i:=.n) I B;have s:=EZ (a:=Bt.c) (f:=2) (i:=.n) V B;have v:∀(a:Bt),(a.c.d 0)[0]? =A (Z Bf.c a.B4):=λ_=>B;have x:∀(a:Bt),(a.c.d 1)[0]? =A (.i .n a.Ax):=λ_=>B;have H:=(f8 a.B4 d.B4 (S a (AdU I))).at B;rw[Q5.2.2.2.1];simp only[B6,EG,Qm,Ad2,g,DF,D7,AdP,P,Ad4,EF,Aea];rw[Q5.2.2.2.2.1];simp only[EG,Qm,Ad2,g,o,r,s,nU,nV,v,x,AdP,DW,V3];have X:∀a:Bt,1<a.c.l:=λ_=>Nat.lt_succ_self 1;have J:∀a:Bt,a.c[1]'(X a)=.i .n a.Ax:=λ_=>B;have U:=Aa1 a d;by_cases m:a.Ax=d.Ax
  .by_cases p:a.B4=d.B4;.have j:a=d:=U.2 ⟨m,p⟩;subst j;have w:a.c[0]? =A (Z Bf.c a.B4):=B;simp[g,o,r,s,v,w,x,J,H];rw[Q5.2.2.2.2.2];simp only[Lt,AdP,NK (a:=b) (by omega)];rw[show F.i .n ((b+1:D):K)=B6 ((b+1:D):K)from B,W (b+1) (by omega) (by omega),t,u];simp
   .have j:¬a=d:=λq=>p (by rw[q]);have w:∀a:Bt,a.c[0]? =A (Z Bf.c a.B4):=λ_=>B;simp[g,o,r,s,v,w,x,J,H,m,p,t,u,j]
  .have j:¬a=d:=λq=>m (by rw[q]);simp[m,t,u,j]
def jd{c:T}{a:C1}(d:b.M c=A (.I 7 a.c)):b.AL c 0 2=A (Hg a.CQ a.I):=by rw[TE (b:=7) (e:=a.c) (by rw[d];rfl),Af (by decide),Ad (by decide)];rfl
def rS(a c:C1)(i:RJ a)(b:G)(e:b.M .h=A (.I 7 a.c))(f:b.M (.o .h)=A (.I 7 c.c))(d:a.Dv.l=c.Dv.l):jj W9 40 5 [.p .h 0,.p (.o .h) 0] b=A (.b (Ao (a.Dv=c.Dv)),b):=by obtain⟨k,l,m,n,h⟩:=i;have:=tJ a c d (by omega) (λj g=>by have:=h j g;omega) b .h (.o .h) e f a.Dv.l 0 (by omega) (by omega);rw[Ad7,Ad7]at this;rw[Q5.2.1];exact this
def cz{a:Ah}{f g:T}{c:D}{e:IntKind}{h i:K}(j:b.Ap f c=A (.i e h))(k:b.Ap g c=A (.i e i))(d:F->R):
  ((Aj (A1 Aa (.b a)) (Bl c [.p f 0]) (A AC)).b λl=>
   (Aj (A1 Aa (.b a)) (AM b [l]) (A AC)).b λm=>
   (Aj (A1 Aa (.b a)) (Bl c [.p g 0]) (A AC)).b λn=>
   (Aj (A1 Aa (.b a)) (AM b [n]) (A AC)).b λo=>
   (Aj (A1 Aa (.b a)) (A6 .neq [m,o]) (A AC)).b λp=>
   (DY [.b a,.b L,p]).b d)=d (.b (a|| !Ao (h=i))):=by
 cases a<;>simp[j,k]
def to{a:Ah}{e f:T}{c:D}{g h:C Bt}(i:b.Ap e c=A (Z Bt.c g))(j:b.Ap f c=A (Z Bt.c h))(d:F->R):
  ((Aj (A1 Aa (.b a)) (Bl c [.p e 0]) (A AC)).b λk=>
   (Aj (A1 Aa (.b a)) (AM b [k]) (A AC)).b λl=>
   (Aj (A1 Aa (.b a)) (DX [l]) (A AC)).b λm=>
   (Aj (A1 Aa (.b a)) (Bl c [.p f 0]) (A AC)).b λn=>
   (Aj (A1 Aa (.b a)) (AM b [n]) (A AC)).b λo=>
   (Aj (A1 Aa (.b a)) (DX [o]) (A AC)).b λp=>
   (Aj (A1 Aa (.b a)) (A6 .neq [m,p]) (A AC)).b λq=>
   (DY [.b a,.b L,q]).b d)=d (.b (a|| !Ao ((g.l:K)=h.l))):=by
 cases a<;>simp[i,j]
def td(a b:C1)(k:R)(c:G)(n:a.Dv.l=b.Dv.l->k=A (.b (Ao (a.Dv=b.Dv)),c)):Da (A (.b Aa,c)) k (.b (!(Ao (a.CQ=b.CQ)&&Ao (a.I=b.I))|| !Ao (a.AA=b.AA)|| !Ao (a.Kq=b.Kq)|| !Ao (a.KL=b.KL)|| !Ao ((a.Dv.l:K)=b.Dv.l)))=A (.b (NS a b),c):=by
 unfold NS;generalize Ao (a.CQ=b.CQ)=e;generalize Ao (a.I=b.I)=f;generalize Ao (a.AA=b.AA)=g;generalize Ao (a.Kq=b.Kq)=h;generalize Ao (a.KL=b.KL)=i;by_cases j:a.Dv.l=b.Dv.l
 .have d:(a.Dv.l:K)=b.Dv.l:=by omega
  rw[n j];generalize Ao (a.Dv=b.Dv)=l;rw[A0 d];cases e<;>cases f<;>cases g<;>cases h<;>cases i<;>cases l<;>rfl
 .have d:¬(a.Dv.l:K)=b.Dv.l:=by omega
  have o:¬a.Dv=b.Dv:=λm=>j (by rw[m]);rw[A2 d,A2 o];cases e<;>cases f<;>cases g<;>cases h<;>cases i<;>rfl
def g24(a b:C1)(x:RJ a):AY 40 [.S a.c,.S b.c] (.b (NS a b)):=Bu B B B (by
 obtain⟨t,u,v,f,w⟩:=x;have q:=(ge a.CQ b.CQ a.I b.I (by omega) (by omega) (λy r=>by have:=f y r;omega)).at B;have d:((G.Aq.V (.I 7 a.c)).V (.I 7 b.c)).M .h=A (.I 7 a.c):=by simp
 have e:((G.Aq.V (.I 7 a.c)).V (.I 7 b.c)).M (.o .h)=A (.I 7 b.c):=by simp
 rw[Q5.1];simp only[O4,Ww,GK,G.Gh,WJ,T.Vp,C1.NY];generalize(G.Aq.V (.I 7 a.c)).V (.I 7 b.c)=c at d e;have s:=rS a b ⟨t,u,v,f,w⟩ c d e;refine⟨c,?_⟩;have g:A9 2 c [.p .h (0+0)]=A (.S (Hg a.CQ a.I)):=by rw[F5];exact AdW (Option.map F.S) (jd d)
 have l:A9 2 c [.p (.o .h) (0+0)]=A (.S (Hg b.CQ b.I)):=by rw[F5];exact AdW (Option.map F.S) (jd e)
 have h:c.Ap .h 2=A (.i .n a.AA):=Em d;have i:c.Ap .h 3=A (.i .n a.Kq):=Em d;have j:c.Ap .h 4=A (.i .n a.KL):=Em d;have k:c.Ap .h 6=A (Z Bt.c a.Dv):=Em d;have m:c.Ap (.o .h) 2=A (.i .n b.AA):=Em e;have n:c.Ap (.o .h) 3=A (.i .n b.Kq):=Em e;have o:c.Ap (.o .h) 4=A (.i .n b.KL):=Em e;have p:c.Ap (.o .h) 6=A (Z Bt.c b.Dv):=Em e;rw[EG 0 .h 0,AdP,g,AdP,EG 0 (.o .h) 0,AdP,l,AdP,q c,AdP];dsimp only;rw[Uu,AdP,cz h m,cz i n,cz j o,to k p];exact td a b _ c s)
section
variable{t:EC} {u:T->Prop}
theorem kh{a:G}{b:Ai}{f:C (C (C K))}{d:K}(c:Bj t a b f d u):jj W9 8 3 [.p t.x 0] a=A (.b Aa,a)\/jj W9 8 3 [.p t.x 0] a=jj W9 8 2 [.n d,.p t.x 0] a:=by
 let⟨m,_,_,_⟩:=c.Hw
 have k:a.Ap t.x 4=A (.n b.AA):=by
  let⟨l,g,e,j⟩:=c
  exact Ay e.M 4
 rw[Q9.2.2.2];by_cases h:b.AA>700;.left;simp only[QY,H (Pe t.x),QB, *]
 .by_cases i:(b.Ac.l:K)>60;.left;simp only[QY,H (Pe t.x),H (Eg t.x),QB, *]
  .right;simp only[QY,H (Pe t.x),H (Eg t.x),QB, *]
theorem dy{a:K}(c:a≠0)(d:F)(b:G):jj W9 8 2 [.n a,d] b=A (.b L,b):=by rw[Q9.2.2.1];simp only[↓Q,↓QT,AdM,c,QB,Q9.2.1]
theorem hM(r:BD t.l){m o:D}(y:m=400):∀{s:D}{d:G}{b:Ai}{j:C (C (C K))}{p:Ai×K},G8 t.l b->Bj t d b j 0 u->CJ b j->HW t.l m o s b=A p->∃z M,jj W9 8 2 [.n 0,.p t.x 0] d=A (.b z,M)
 |0,d,b,j,p,q,v,w,a=>by cases a
 |s+1,d,b,j,p,q,v,w,a=>by
  let⟨I,J⟩:=fU r (xA:=o) y q v w
  unfold HW at a;by_cases h:(Br t.l b).l=0
  .let⟨c,l,e,x⟩:=I h
   refine⟨L,c,?_⟩;rw[Q9.2.2.1];simp only[QY,QB,Q9.2.1, *]
  .rw[Ad h]at a
   cases k:KH t.l m o b with
   |none=>rw[k]at a;cases a
   |some g=>
    rw[k]at a;have a:(if g.2≠0 then A g else HW t.l m o s g.1)=A p:=a;let⟨P,Q⟩:=J h g k
    have N:∀{c:G},W9 (pos 35) [.p t.x 0] d=A (.b L,c)->jj W9 8 2 [.n 0,.p t.x 0] d=jj W9 8 3 [.p t.x 0] c:=λ{c} l=>by rw[Q9.2.2.1];simp only[QY,QB, *]
    by_cases f:g.2=0
    .rw[Ad (λR=>R f)]at a;let⟨c,H,l,e,F,x⟩:=P f
     have E:=VJ r q h k f;rcases kh e with i|i;.grind
     .let⟨z,T,U⟩:=hM r y E e F a
      grind
    .let⟨c,S,H,l,e,x⟩:=Q f
     rcases kh e with i|i;.grind
     .exact⟨L,c,(N l).t (i.t (dy f _ _))⟩
end
theorem g5{d:C Ab}(U:Cl d)(a:AQ)(N:a.l.l<=2000000)(P:a.BT.l<=2000000):∃c:Ah,AY 8 [Z Ab.c d,.S (AQ.c a)] (.b c):=by
 obtain⟨h,p⟩:∃h:D,h=400:=⟨_,B⟩;obtain⟨s,q⟩:∃s:D,2000000<s:=⟨2000001,by omega⟩;obtain⟨j,xh⟩:∃j:D,6000<j:=⟨6001,by omega⟩;have Y:∃c i,xx W9 8 [Z Ab.c d,.S (AQ.c a)] G.Aq=A (.b c,i):=by
  let⟨xa,o,W,T,xc,J,xk,xl⟩:=box G.Aq (.I 2 (AQ.c a))
  have xr:∀(b:F->G->R),bl (.p G.Aq.next 0) (G.Aq.V (.I (Bq (F.I (.S (AQ.c a)))) (F.I (.S (AQ.c a))))) b=b (.p xa 0) o:=Dy G.Aq (.I 2 (AQ.c a)) W T;have xo:=J;have xp:∀e f:F,CO 0 [.AB [e,f]]=A e:=λ_ _=>B;have xq:∀e f:F,CO 1 [.AB [e,f]]=A f:=λ_ _=>B;let⟨v,r⟩:=bH (c:=d) (h:=h) q a
  let⟨xb,Q,xi,xe,xd,z⟩:=fS U p a N P r o (p:=λ_=>False) (λxm V=>V.elim)
  have w:xx W9 8 [Z Ab.c d,.S (AQ.c a)] G.Aq=jj W9 8 2 [.n v.2,xb] Q:=by rw[Q9.1];simp only[QY,H _,H _, *]
  by_cases g:v.2=0
  .obtain⟨t,xf,S,rfl,y,x⟩:=z g;let⟨E,b⟩:=PL (λM=>HU M) r g
   have n:=HU E;subst S;have:=b.X.W.AA;let⟨xn,X⟩:=ci n (i:=h) q (h:=j) b (by omega)
   let⟨c,xg,xj⟩:=hM n p b y x X
   rw[g]at w;grind
  .exact⟨L,_,w.t (dy g _ _)⟩
 let⟨c,i,I⟩:=Y
 exact⟨c,Bu B B B ⟨i,I⟩⟩
structure WY(i:G)(e:F)(b:G)(f:C WE)(d:T)(a:WE)(c:T)(k:C F):Prop where
 I:WI i e b f
 g:b.M d=A (.I 2 (CG a))
 l:Lv b d
 uq:As e d
 ro:Ro b a.1 Bf.c 2 a.2.B4
 uy:∀j,¬As a.1 j->As e j
 fy:Dx i a.1
 qy:As a.1 d
 qx:∀h∈f,As h.1 d
 A7:a.2.B4.l<1000000000
 gb:b.M c=A (.I 7 k)
 lb:Lv b c
 ub:As e c
 yb:As a.1 c
 bx:∀h∈f,As h.1 c
def MA(a:Bt):C Bt->D
 |[]=>0
 |c::b=>if K8 c a=L then MA a b+1 else 0
section
variable{z:T->Bm} {t:G} {l:C Ab} {x:T} {e:Ai} {y:C (C (C K))} {v:K} {u:Bm->F}
structure WC(t:G)(d:F)(b:G)(c:C WE)(a:T)(f:C F):Prop where
 I:WI t d b c
 gb:b.M a=A (.I 7 f)
 lb:Lv b a
 ub:As d a
 bx:∀x∈c,As x.1 a
end
section
variable{w:T->Bm} {h:G} {l:C Ab} {x:T} {e:Ai} {v:C (C (C K))} {u:K} {t:Bm->F}
end
section
variable{t:EC} {h:G} {e:Ai} {v:C (C (C K))} {u:T->Prop}
end
def AaD{e:AQ}(c:cJ e):D3 e.l<=100000000:=by
 have:∀a:C (C K),(∀b∈a,b.l<=43)->D3 a<=a.l*43:=λa=>by
  induction a with
  |nil=>intro _;exact CK _
  |cons f i h=>intro d;have:=h λb g=>d b (Aez _ g);have:=d f (Aey ..);show f.l+D3 i<=_;rw[Aec];omega
 have j:=this _ c.2.2;have:=c.1;omega
def NA(c:D)(b:C K)(a:K):D:=if a<(b.l:K)then(((b[a.n]?).g 0)%(c:K)).n else 0
def Ny(a:C A5)(c:C K)(b:K):A5:=(a[NA a.l c b]?).g ⟨0,0⟩
def LV(b:C Ab)(g h:D)(i:C K):D->Ai->C A5->Ae (Ai×C A5×K)
 |0,_,_=>O
 |j+1,a,c=>
  if(Br b a).l=0 then A (a,c,0)
  else
   let f:=Ny (Br b a) i a.AA
   let e:=F6 b ⟨a.Ac,a.Am,a.round+1,a.AA⟩ f (a.round+1)
   if e.2≠0 then A (e.1,c++[f],e.2)else match Ib b g h e.1 with
    |some d=>if d.2≠0 then A (d.1,c++[f],d.2)else LV b g h i j d.1 (c++[f])
    |none=>O
def Tp(b:C Ab)(c d e:D)(g:AQ)(f:C K):Ae (Ai×C A5×K):=match JA b c d g with
 |some a=>if a.2≠0 then A (a.1,[],a.2)else LV b c d f e a.1 []
 |none=>O
def vf{a:D}(f:0<a)(c:C K)(b:K):NA a c b<a:=by
 unfold NA;split;.have d:=Int.emod_lt_of_pos ((c[b.n]?).g 0) (show 0<(a:K) by omega);have e:=Int.emod_nonneg ((c[b.n]?).g 0) (show(a:K)≠0 by omega);omega
 .grind
def X2{a:C A5}(e:a.l≠0)(c:C K)(b:K):a[NA a.l c b]? =A (Ny a c b):=by
 have:=vf (a:=a.l) (by omega) c b;unfold Ny;let⟨f,d⟩:=Bb this
 rw[d];rfl
def uU{b:CI}(i:BD b.l){a:Ai}(c:G8 b.l a){h:A5}(n:h∈Br b.l a):∃e f k d g o,RV b ⟨a.Ac,a.Am,a.round+1,a.AA⟩ h e f k d g o:=by
 obtain⟨e,f,rfl,l,m⟩:=Ve n;have j:BY b.l ⟨a.Ac,a.Am,a.round+1,a.AA⟩:=c.X.MZ c.X.W.AA;let⟨q,d,g,r,_,_,_,_,p⟩:=W3 i j l m
 grind
def bG{b:C Ab}(g:BD b){a:Ai}(d:G8 b a){f:A5}(v:f∈Br b a)(r:(F6 b ⟨a.Ac,a.Am,a.round+1,a.AA⟩ f (a.round+1)).2=0):BY b (F6 b ⟨a.Ac,a.Am,a.round+1,a.AA⟩ f (a.round+1)).1/\(F6 b ⟨a.Ac,a.Am,a.round+1,a.AA⟩ f (a.round+1)).1.AA=a.AA+1/\∀{m n:D}{e:Ai×K},Ib b m n (F6 b ⟨a.Ac,a.Am,a.round+1,a.AA⟩ f (a.round+1)).1=A e->G8 b e.1/\e.1.AA=a.AA+1:=by obtain⟨k,l,rfl,t,u⟩:=Ve v;have o:BY b ⟨a.Ac,a.Am,a.round+1,a.AA⟩:=d.X.MZ d.X.W.AA;have y:=d.r0;have z:=d.rf;have c:=fi g o (c:=k) (n:=l) t u (by omega) r;have s:(F6 b ⟨a.Ac,a.Am,a.round+1,a.AA⟩ ⟨k,l⟩ (a.round+1)).1.AA=a.AA+1:=c.AA;refine⟨c.X,s,λ{m n e} h=> ?_⟩;have w:=UH h;have x:e.1.round=a.round+1:=w.2.1.t c.Dj.round;have p:=(au g c.X.W.sh h).1.A7;have q:a.Ac.l<=_:=c.Dj.A7;exact⟨⟨aw g c.X h,by omega,by omega,Aem (Aem d.Ld q) p⟩,by omega⟩
def iC{c:C Ab}(p:BD c){n o:D}{i:C K}:∀{e:D}{a:Ai}{d:C A5}{f:Ai×C A5×K},G8 c a->d.l<=a.AA->LV c n o i e a d=A f->(f.2.2=0->G8 c f.1)/\f.2.1.l<=6001
 |0,a,d,f,j,u,b=>by cases b
 |e+1,a,d,f,j,u,b=>by
  have y:=j.X.W.AA;unfold LV at b;by_cases k:(Br c a).l=0;.rw[Af k]at b;cases b;grind
  .rw[Ad k]at b;have r:=AdU (X2 k i a.AA);generalize Ny (Br c a) i a.AA=h at b r;have z:(d++[h]).l=d.l+1:=by grind
   by_cases l:(F6 c ⟨a.Ac,a.Am,a.round+1,a.AA⟩ h (a.round+1)).2=0
   .rw[Ad (λe=>e l)]at b
    let⟨v,w,t⟩:=bG p j r l
    cases m:Ib c n o (F6 c ⟨a.Ac,a.Am,a.round+1,a.AA⟩ h (a.round+1)).1 with
    |none=>rw[m]at b;cases b
    |some g=>
     rw[m]at b;let⟨s,x⟩:=t m
     have b:(if g.2≠0 then A (g.1,d++[h],g.2)else LV c n o i e g.1 (d++[h]))=A f:=b;by_cases q:g.2=0;.rw[Ad (λe=>e q)]at b;exact iC p s (by omega) b
     .rw[Af q]at b;cases b;grind
   .rw[Af l]at b;cases b;grind
