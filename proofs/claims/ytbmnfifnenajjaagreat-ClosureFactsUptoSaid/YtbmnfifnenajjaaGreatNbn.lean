/- Part of the proof. -/
import Derived.Test.YtbmnfifnenajjaaGreatNbm
set_option linter.all false
noncomputable section
open Option renaming some->A,bind->Option.b
open _root_ renaming rfl->B,List->C,Nat->D,Int->K,if_neg->Ad,if_pos->Af,Bool->Ah,cond->Aj,decide_eq_true->A0,decide_eq_false->A2,absurd->BF
open Bool renaming true->L,false->Aa
open Decidable renaming decide->Ao
open List renaming replicate->BG,length->List.l,map->List.m,take->List.t,drop->List.d,flatMap->List.f
open Go.IntKind renaming i64->Go.IntKind.n
open Array renaming toList->Array.l
open Eq renaming trans->Eq.t,symm->Eq.s
open Or renaming inl->Or.i,inr->Or.j
open Int renaming toNat->Int.n
namespace Go.Proofs.YtbmnfifnenajjaaGreat
open Go.Fg
theorem CJ.Km{i:C Ab}{e:Ai}{u:C (C (C K))}(a:CJ e u)(b:Ab)(m p o q:K)(r:N):CJ ⟨e.Ac++[J6 i b m p o q r],e.Am,e.round,e.AA⟩ (u++[In i b.Av]):=by
 have z:(Ai.mk (e.Ac++[J6 i b m p o q r]) e.Am e.round e.AA).Ac.l=e.Ac.l+1:=by grind
 have M:∀d g,Ek (J6 i b m p o q r) d g=EQ:=λd g=>T9 _ _ _ _ _;have J:(In i b.Av).m List.length=(J6 i b m p o q r).A4.m List.length:=by show(b.Av.m λE=>BG _ 0).m _=(b.Av.m λE=>BG _ _).m _;rw[AeF,AeF];congr 1;grind
 have Q:∀(d g:D) k l,(In i _)[d]? =A k->k[g]? =A l->l=0:=λd g k l c x=>by
  unfold In at c
  rw[Aeo]at c
  cases H:b.Av[d]?with
  |none=>rw[H]at c;grind
  |some E=>grind
 refine⟨by rw[XD,z,a.A7],λj v n=> ?_,λj d g v k l c x G=> ?_⟩
 .rw[FQ];by_cases f:j=e.Ac.l;.rw[Af f];rw[f,<-a.A7,Ae9 Om,Afc]at n;grind
  .have s:=(AdN.1 n).1;rw[XD,a.A7]at s;rw[AeQ (by rw[a.A7];omega)]at n;rw[Ad f];exact a.Ga j v n
 .rw[FQ];by_cases f:j=e.Ac.l;.rw[Af f];rw[f,<-a.A7,Ae9 Om,Afc]at c;have:=Aew c;subst this;exact .i ⟨P,P⟩
  .have s:=(AdN.1 c).1;rw[XD,a.A7]at s;rw[AeQ (by rw[a.A7];omega)]at c;rw[Ad f];refine(a.B0 j d g v k l c x G).Hf λI F=> ?_;unfold CW at F⊢;rw[FQ,Ad (by omega),z];grind
theorem CJ.RH{e:Ai}{u:C (C (C K))}(b:CJ e u){a:D}(c:a<e.Ac.l)(d:K):CJ (e.AJ a {e.at a with next:=d}) u:=b.AJ c ⟨B,B,B,B,B,B,B,B⟩ B
theorem Xh(d:AF->N)(c:C AF)(b:AK):∀a,(Dc d c b a).1.A4=b.A4
 |0=>rfl
 |a+1=>by
  have g:=Xh d c b a
  show(match c[a]?with|some f=>((FG _ a _).1,(FG _ a _).2||(Dc _ _ b a).2)|none=>Dc _ c b a).1.A4=_
  cases c[a]?with
  |none=>grind
  |some f=>show(FG (Dc d c b a).1 a (d f)).1.A4=_;unfold FG;grind
section
variable{t:EC} {h:G} {e:Ai} {u:C (C (C K))} {y:K} {w:T->Prop}
theorem kb(M:BD t.l)(f:BY t.l e)(o:Bj t h e u 0 w){G H:T}(xl:w G)(W:w H){S U V:F}{c:D}(r:h.M G=A (.I 7 (Ks (e.at c) S U V)))(j:c<e.Ac.l)(xf:(e.at c).AP≠-1){x:D}{i:Ab}(g:Dw t.l x i (e.at c))(xa:h.M H=A (.I 5 (Ab.c i)))(xy:i.A_.l≠0)(N:(e.at c).next≠-1)(q:Ah):∃s,jj W9 117 6 [.p G 0,.p t.x 0,.n c,.p H 0,.b q] h=A (.b ((Gv t.l e c).2||q),s)/\Bj t s (Gv t.l e c).1 u 0 w/\Bo w h s:=by
 let⟨l,d,k⟩:=f.next j N
 let⟨z,v,xp,xC,xn,m,xz⟩:=f.up j xf
 let⟨xh,Z,n⟩:=f.W.sh.BC l _ (Di k)
 have xe:=f.W.sh.A7;have xG:=f.W.sh.Az c _ (Di j);have I:=M.Bc x i g.hb;have xc:Z=i:=by
  have:xh=x:=by have:=g.ha;have:=n.ha;have:=d.Bc;omega
  subst this;exact Aew (n.hb.s.t g.hb)
 subst xc;have X:=o;let⟨xF,xo,p,xu⟩:=X
 let⟨xq,xg,R⟩:=p.Vl j
 have xH:=p.M;have xj:=p.M;rw[A2 N]at R;have xD:=r;have xE:=r;have xi:=r;have xs:=F2 (a:=(e.at c).Az) (b:=1) (by omega) (by omega);have xr:DE [.b L]=A (.b Aa):=B;let⟨xt,xA,J⟩:=pl o xe (e.at c).AP (e.at c).Ax ((e.at c).Az+1) k ⟨d.AP,d.Ax,d.Az,by have:=d.lt;omega⟩ (λQ xw E=>by have:=f.W.KN l Q z v (⟨k,d.AP.t m.2.1,d.Ax.t m.2.2⟩:CW e l z v) (⟨by omega,E.1.t m.2.1,E.2.1.t m.2.2⟩:CW e Q z v) (by rw[E.2.2.1,d.Az]);omega)
 have xd:c≠l:=by have:=d.lt;omega
 have xk:=n.An;have xx:=I.A_;have xv:=I.An;let⟨xb,xB,Y,xm⟩:=tV M (o.ext J) W j k xd g ((J.M P).t xa) (by omega) (by omega) (f.W.p0 l k) q
 unfold Gv;simp only[d.next,AdR,g.Ca];refine⟨xb,?_,Y,P⟩;rw[D_.2.2.2.2.2.2.2.2.2.2.2.2.2.2.2.1];simp only[Lk,xj,xg,R,QB,D_.2.2.2.2.2.2.2.2.2.2.2.2.2.2.2.2.1,xi];grind
abbrev OB(d:C Ab)(b:Ab)(c:D)(e:Ai)(a:D)(f:N):Ai:=⟨e.Ac++[J6 d b c (e.at a).AP (e.at a).Ax ((e.at a).Az+1) f],e.Am,e.round,e.AA⟩
abbrev nC(e:Ai)(a:D):AK:={e.at a with next:=(e.Ac.l:K)}
theorem AaK(I:BD t.l)(r:BY t.l e)(xu:Bj t h e u 0 w)(xa:CJ e u){m x:T}(yQ:w m)(yR:w x){xH xI xJ:F}{c:D}(yr:h.M m=A (.I 7 (Ks (e.at c) xH xI xJ)))(p:c<e.Ac.l)(xf:(e.at c).AP≠-1){k:D}{d:Ab}(q:Dw t.l k d (e.at c))(xQ:h.M x=A (.I 5 (Ab.c d)))(xX:d.A_.l≠0)(s:Ah):((ER t.l e c).2.2=0->∃W xp,jj W9 117 11 [.p m 0,.p t.x 0,.n c,.p x 0,.b s] h=A (.b ((ER t.l e c).2.1||s),W)/\Bj t W (ER t.l e c).1 xp 0 w/\CJ (ER t.l e c).1 xp/\Bo w h W)/\((ER t.l e c).2.2≠0->∃W yj xp yg,jj W9 117 11 [.p m 0,.p t.x 0,.n c,.p x 0,.b s] h=A (.b yg,W)/\Bj t W yj xp (ER t.l e c).2.2 w/\Bo w h W):=by
 let⟨g,xh,yU,y4,xl,xk,xY⟩:=r.up p xf
 have yZ:=r.W.sh.A7;have zd:=r.W.sh.Az c _ (Di p);have x4:=I.Bc k d q.hb;let⟨xd,xV⟩:=Bb (b:=d.A_) (a:=0) (by omega)
 let⟨f,xZ⟩:=q.Eo (x4.nx xd P)
 have xo:Et t.l (e.at c)=f:=by unfold Et;rw[q.Ca,xV,Aeg];exact OP xZ
 have yO:B5 e.Am.l f:=by rw[<-xo];exact r.W.Bs c _
 have yY:∀g,w g->Lv h g:=λg xf=>xu.C4 xf;have yV:h.Ap x 3=A (Z AF.c d.A_):=Ay xQ 3;have y0:AR 2 [Z AF.c d.A_,.n 0]=A (.pi (AF.c xd)):=IE (a:=0) xV;have y9:A9 2 h [.pi (AF.c xd)]=A (.S (AF.c xd)):=B;have x8:=xu;let⟨za,yS,yd,yW⟩:=x8
 let⟨xU,y1,x6⟩:=UC yd p xd xZ
 let⟨G,R,yy,yv,x7,xB,y2,y5⟩:=box xU (.I 2 (N.c f))
 let⟨ze,zc⟩:=EL xU (b:=2) [.i .u8 0,.n 0] (c:=N.c f) yy yv B B
 have xt:=x6.AI x7;have Y:Bj t R e u 0 (λg=>w g\/g=G):=(xu.V xt).sub P;have xP:=(xt.M P).t yr;have xR:=(xt.M P).t xQ;have x2:R.Ap G 0=A (.i .u8 f.Ak):=Ay xB 0;have yl:DE [.b Aa]=A (.b L):=B;have x3:f.Ak=5->jj W9 117 11 [.p m 0,.p t.x 0,.n c,.p x 0,.b s] h=jj W9 117 8 [.n 0,.p G 0,.p m 0,.p t.x 0,.n c,.p x 0,.b s] R:=λyi=>by rw[D_.2.2.2.2.2.2.2.2.2.2.1];simp only[Lk, *]
 have xs:f.Ak≠5->jj W9 117 11 [.p m 0,.p t.x 0,.n c,.p x 0,.b s] h=jj W9 117 7 [.p G 0,.p m 0,.p t.x 0,.n c,.p x 0,.b s] R:=λyi=>by rw[D_.2.2.2.2.2.2.2.2.2.2.1];simp only[Lk, *]
 by_cases xc:f.Ak=0
 .have E:(e.at c).next= -1:=AdS λxE=>(r.W.L4 c p xE).1 (by grind)
  unfold ER;simp only[];rw[xo,Af xc];refine⟨λ_=> ?_,P⟩;let⟨xj,J,j,xq⟩:=Y
  let⟨xm,xg,H⟩:=j.Vl p
  rw[A0 E]at H;have xG:R.Ap t.x 7=A (.n 0):=Ay j.M 7;have xF:R.Ap t.x 6=A (J .Am):=Ay j.M 6;refine⟨R,u,?_,⟨xj,J,j,P⟩,xa,P⟩;rw[xs (by omega),D_.2.2.2.2.2.2.2.2.2.2.2.1];simp only[Lk,D_.2.2.2.2.2.2.2.2.2.2.2.2.2.2.2.1,Ad8,Ae6, *]
 by_cases M:f.Ak=5
 .have E:(e.at c).next= -1:=AdS λxE=>(r.W.L4 c p xE).2 (by grind)
  let⟨yF,yE,yK,yL,y6,y7⟩:=xl.Ga I q
  have V:ER t.l e c=(e.AJ g (Ce (λ_=>f) xh ⟨(e.at c).Az,L,L⟩ (e.at g) d.Bk.l).1,(Ce (λ_=>f) xh ⟨(e.at c).Az,L,L⟩ (e.at g) d.Bk.l).2):=by unfold ER;simp only[];rw[xo,Ad xc,Af M];unfold JI;simp only[xk.2.1,xk.2.2,AdR,Aeg, *]
  let⟨o,xO,xr,z,xb,yb⟩:=tU I r Y xa P (.j B) p xk xY xl.lt q xR xB xc yO (xl.M8 I r xk L) (λyP yz=>⟨yF,yK,by omega⟩) (λyP yz=>⟨yE,yL,by omega⟩) (.p m 0) s
  unfold bF at xr z xb;have y8:o.Ap G 0=A (.i .u8 f.Ak):=Ay ((yb G (.j B)).t xB) 0;have yB:c≠g:=by have:=xl.lt;omega
  have xM:Bo w h o:=by grind
  let⟨xz,xA⟩:=YO (λ_=>f) xh ⟨(e.at c).Az,L,L⟩ (e.at g) d.Bk.l
  rw[V];have ya:=z;let⟨xj,J,j,xq⟩:=ya
  constructor
  .intro xn;have xz:=xz xn;rw[xz]at xr z xb j;rw[xn]at z j;have yx:c<(e.AJ g (Ce (λ_=>f) xh ⟨(e.at c).Az,L,L⟩ (e.at g) d.Bk.l).1).Ac.l:=by rw[Ej];grind
   let⟨xm,xg,H⟩:=j.Vl yx
   rw[R7 xY yB,A0 E]at H;have xG:o.Ap t.x 7=A (.n 0):=Ay j.M 7;have xF:o.Ap t.x 6=A (J .Am):=Ay j.M 6;refine⟨o,xO,?_,z.sub P,xb,xM⟩;rw[x3 M,xr,D_.2.2.2.2.2.2.2.2.2.2.2.1];simp only[Lk,Int.reduceEq,QB,D_.2.2.2.2.2.2.2.2.2.2.2.2.2.2.2.1,Ad8, *]
  .intro xn;let⟨yk,xA⟩:=xA xn
   rw[xA]at z j;have xG:o.Ap t.x 7=A (.n 6):=Ay j.M 7;refine⟨o,_,xO,(F3 (λ_=>f) xh ⟨(e.at c).Az,L,L⟩ (e.at g) d.Bk.l).2.1||s,?_,by rw[yk];exact z.sub P,xM⟩;rw[x3 M,xr,D_.2.2.2.2.2.2.2.2.2.2.2.1];simp only[Lk,Int.reduceEq,QB,D_.2.2.2.2.2.2.2.2.2.2.2.2.2.2.2.1, *]
 .by_cases E:(e.at c).next= -1
  ·
   have x9:=Y;let⟨xj,J,j,xq⟩:=x9
   let⟨xm,xg,H⟩:=j.Vl p
   rw[A0 E]at H;have xF:R.Ap t.x 6=A (J .Am):=Ay j.M 6;let⟨yh,o,yA,yN,ye,xb⟩:=j.w9 p (b:=e.Ac.l) (by omega)
   have yu:xm=yh:=by grind
   subst yu;let⟨yp,yq⟩:=xb.Fp (by grind) xq
   have z:Bj t o (e.AJ c (nC e c)) u 0 (λg=>w g\/g=G):=⟨xj,J,ye,yp⟩;have xe:=(yq m P).t xP;have yG:o.Ap m 0=A (.n k):=by rw[Ay xe];show A (F.n (e.at c).Bc)=_;rw[q.ha]
   have yH:o.Ap m 1=A (.n (e.at c).AP):=Ay xe 1;have yI:o.Ap m 2=A (.n (e.at c).Ax):=Ay xe 2;have yJ:o.Ap m 3=A (.n (e.at c).Az):=Ay xe 3;have yn:=F2 (a:=(e.at c).Az) (b:=1) (by omega) (by omega);have yM:o.AL G 0 2=A (N.c f):=BB P;have x1:(e.AJ c (nC e c)).Ac.l=e.Ac.l:=Ej ..;let⟨xS,xT⟩:=ah I z (by rw[x1];exact xa.A7) (by grind) q.hb (e.at c).AP (e.at c).Ax ((e.at c).Az+1) f
   rw[x1]at xS xT;have xi:Gu t.l e c=if e.Ac.l=400 then(e,Aa,5)else(Ai.AJ (OB t.l d k e c f) c (nC e c),L,0):=by
    unfold Gu nC;simp only[];rw[Af E];unfold EO;by_cases U:e.Ac.l=400;.grind
    .rw[Ad U,Ad U,q.ha,AdR,q.hb,xo];rfl
   by_cases U:e.Ac.l=400
   .rw[Af U]at xi;have V:ER t.l e c=(e,Aa,5):=by unfold ER;grind
    rw[V];refine⟨P,λ_=> ?_⟩;let⟨X,x0,S,xL⟩:=xS U
    let⟨zb,yT,yf,yX⟩:=S
    have xG:X.Ap t.x 7=A (.n 5):=Ay yf.M 7;refine⟨X,_,u,L,?_,S.sub P,P⟩;rw[xs M,D_.2.2.2.2.2.2.2.2.2.2.2.1];simp only[Q,QT,Int.reduceEq,QB,Ad8,D_.2.2.2.2.2.2.2.2.2.2.2.2.2.2.2.1,ZR, *]
   .rw[Ad U]at xi;let⟨X,x0,S,xL⟩:=xT U
    have xy:=bs I r p xf (by grind) (by grind);rw[xi]at xy;have yo:⟨(e.AJ c (nC e c)).Ac++[J6 t.l d k (e.at c).AP (e.at c).Ax ((e.at c).Az+1) f],e.Am,e.round,e.AA⟩=Ai.AJ (OB t.l d k e c f) c (nC e c):=by unfold Ai.AJ;grind
    have S:Bj t X ⟨(e.AJ c (nC e c)).Ac++[J6 t.l d k (e.at c).AP (e.at c).Ax ((e.at c).Az+1) f],e.Am,e.round,e.AA⟩ (u++[In t.l d.Av]) 0 (λg=>w g\/g=G):=S;have xK:CJ ⟨(e.AJ c (nC e c)).Ac++[J6 t.l d k (e.at c).AP (e.at c).Ax ((e.at c).Az+1) f],e.Am,e.round,e.AA⟩ (u++[In t.l d.Av]):=(xa.RH p _).Km d k _ _ _ f;rw[yo]at S xK;have y3:(OB t.l d k e c f).Ac.l=e.Ac.l+1:=by grind
    have yw:c<(OB t.l d k e c f).Ac.l:=by grind
    have V:ER t.l e c=((Gv t.l (Gu t.l e c).1 c).1,(Gv t.l (Gu t.l e c).1 c).2||true,0):=by unfold ER;grind
    rw[V,xi];refine⟨λ_=> ?_,P⟩;have xN:(Ai.AJ (OB t.l d k e c f) c (nC e c)).at c=(nC e c):=HE yw;have xW:c<(Ai.AJ (OB t.l d k e c f) c (nC e c)).Ac.l:=by grind
    have ys:X.M m=A (.I 7 (Ks ((Ai.AJ (OB t.l d k e c f) c (nC e c)).at c) xH xI xJ)):=by rw[xN];exact(xL m P).t xe
    have yt:X.M x=A (.I 5 (Ab.c d)):=by grind
    have x5:Dw t.l k d ((Ai.AJ (OB t.l d k e c f) c (nC e c)).at c):=by rw[xN];exact q.En ⟨B,B,B,B,B,B,B,B⟩
    let⟨xC,yD,xv,yc⟩:=kb I xy S P P ys xW (by grind) x5 yt xX (by grind) L
    have xx:CJ (Gv t.l (Ai.AJ (OB t.l d k e c f) c (nC e c)) c).1 (u++[In t.l d.Av]):=by
     let⟨yC,xw,xD⟩:=xy.next xW (by grind)
     unfold Gv;simp only[xw.next,AdR];refine xK.AJ xD (ME _ _ _ _).1 ?_;exact Xh _ _ _ _
    refine⟨xC,_,?_,xv.sub P,xx,P⟩;rw[xs M,D_.2.2.2.2.2.2.2.2.2.2.2.1];simp only[Lk,Int.reduceEq,x2,xc,M,QB,xF,xg,H,Ad8,yl,yA,yN,yG,yH,yI,yJ,yn,yM,x0];grind
  ·
   have V:ER t.l e c=((Gv t.l e c).1,(Gv t.l e c).2||false,0):=by
    have xi:Gu t.l e c=(e,Aa,0):=by unfold Gu;grind
    unfold ER;grind
   rw[V];refine⟨λ_=> ?_,P⟩;let⟨xj,J,j,xq⟩:=Y
   let⟨xm,xg,H⟩:=j.Vl p
   rw[A2 E]at H;have ym:DE [.b L]=A (.b Aa):=B;let⟨xC,yD,xv,yc⟩:=kb I r Y P P xP p xf q xR xX E s
   have xx:CJ (Gv t.l e c).1 u:=by
    let⟨yC,xw,xD⟩:=r.next p E
    unfold Gv;simp only[xw.next,AdR];refine xa.AJ xD (ME _ _ _ _).1 ?_;exact Xh _ _ _ _
   refine⟨xC,u,?_,xv.sub P,xx,P⟩;rw[xs M,D_.2.2.2.2.2.2.2.2.2.2.2.1];simp only[Lk,Int.reduceEq,x2,xc,M,QB,j.M,xg,H,Aet,ym];omega
end
theorem es{f g:AK}(a:DQ f g)(b c d:F):Ks g b c d=Ks f b c d:=by unfold Ks;rw[a.Bc,a.AP,a.Ax,a.Az]
section
variable{t:EC} {h:G} {e:Ai} {v:C (C (C K))} {u:T->Prop}
theorem qX(m:BD t.l)(E:BY t.l e)(J:Bj t h e v 0 u)(xd:CJ e v){a:D}(g:a<e.Ac.l):((El t.l e a).2.2=0->∃j G,W9 (pos 117) [.p t.x 0,.n a] h=A (.b (El t.l e a).2.1,j)/\Bj t j (El t.l e a).1 G 0 u/\CJ (El t.l e a).1 G/\Bo u h j)/\((El t.l e a).2.2≠0->∃j xA G xf,W9 (pos 117) [.p t.x 0,.n a] h=A (.b xf,j)/\Bj t j xA G (El t.l e a).2.2 u/\Bo u h j):=by
 have yd:∀b,u b->Lv h b:=λb o=>J.C4 o;let⟨yo,i,N,yb⟩:=J
 let⟨x3,xK,xS⟩:=N.Sh g
 have xT:=N.cv;let⟨d,W,xI,xF,xo,V,yh,yk⟩:=box h (.I 7 (DM i e a))
 let⟨x0,xU⟩:=EL h (b:=7) [.n 0,.n 0,.n 0,.n 0,.sn,.sn,.sn] (c:=DM i e a) xI xF B (Si N g)
 have xm:W.Ap d 1=A (.n (e.at a).AP):=Ay V 1;have xb:Bj t W e v 0 (λb=>u b\/b=d):=(J.V xo).sub P;by_cases o:(e.at a).AP= -1
 .have w:El t.l e a=(e,Aa,0):=by
   unfold El
   grind
  rw[w]
  refine⟨λ_=>⟨W,v,AZ B B ?_,xb.sub P,xd,P⟩,P⟩
  have x6:(-1)<0:=by omega
  rw[o]at xm
  rw[D_.1]
  simp only[Lk,H (Eg t.x), *]
 .let⟨yl,yf,x4,yj,x1,xq,ye⟩:=E.up g o
  let⟨yg,c,I⟩:=E.W.sh.BC a _ (Di g)
  have xz:¬(e.at a).AP<0:=by rw[xq.2.1];omega
  let⟨ya,q,xL,xp,xE,xt⟩:=rn m E xb P (U:=i (.An a)) (V:=i (.AG a)) (X:=i (.AS a)) V g o I
  have xk:=(T7 (c:=t.l) (Di g)).1;have F:=YM E g;have Z:=(xk.R6 g).1;have x:a<(Cj t.l e a).1.Ac.l:=by rw[xk.A7];grind
  have xj:((Cj t.l e a).1.at a).AP≠-1:=by rw[Z.AP];grind
  have xr:CJ (Cj t.l e a).1 v:=by
   unfold Cj;simp only[];split;.grind
   .exact xd.AJ g (ME _ _ _ _).1 (Xh _ _ _ _)
  have y:=I.En Z;let⟨b,p,xf,yi,r,z,xH⟩:=F.up x xj
  let⟨xP,xO,xQ,xR,ym,yn⟩:=r.Ga m y
  let⟨f,T,xM,k,xe,xu⟩:=tW m F xp xr (.j B) x z xH r.lt y xE (r.M8 m F z Aa) (λxY xJ=>⟨xP,xQ,by omega⟩) (λxY xJ=>⟨xO,xR,by omega⟩) (.p d 0) (Cj t.l e a).2
  unfold bX at xM k xe;have x8:EU t.l (Cj t.l e a).1 a=((Cj t.l e a).1.AJ b (Ce (Fx t.l ((Cj t.l e a).1.at a)) p ⟨((Cj t.l e a).1.at a).Az,Aa,L⟩ ((Cj t.l e a).1.at b) c.Bk.l).1,(Ce (Fx t.l ((Cj t.l e a).1.at a)) p ⟨((Cj t.l e a).1.at a).Az,Aa,L⟩ ((Cj t.l e a).1.at b) c.Bk.l).2):=by unfold EU;simp only[z.2.1,z.2.2,AdR,y.Ca]
  have xl:=(Uw (b:=t.l) (Di x) r.AP r.Cc).1;have xa:=(xl.R6 x).1;let⟨xw,R⟩:=YO (Fx t.l ((Cj t.l e a).1.at a)) p ⟨((Cj t.l e a).1.at a).Az,Aa,L⟩ ((Cj t.l e a).1.at b) c.Bk.l
  have xn:xx W9 117 [.p t.x 0,.n a] h=jj W9 117 12 [.p d 0,.p t.x 0,.n a,.p q 0,.b ((F3 (Fx t.l ((Cj t.l e a).1.at a)) p ⟨((Cj t.l e a).1.at a).Az,Aa,L⟩ ((Cj t.l e a).1.at b) c.Bk.l).2.1||(Cj t.l e a).2)] f:=by rw[D_.1];simp only[↓x0,↓Q,↓QT,AdM,↓H (Eg t.x),↓H xT,↓H xK,↓H xS,↓H xU,↓H xm,xz];rw[xL,D_.2.2.1];grind
  have xi:f.M q=A (.I 5 (Ab.c c)):=by grind
  let⟨yp,x2,s,yc⟩:=k
  have x5:F4 t.l (e.at a)=c:=I.Ca;by_cases S:(Ce (Fx t.l ((Cj t.l e a).1.at a)) p ⟨((Cj t.l e a).1.at a).Az,Aa,L⟩ ((Cj t.l e a).1.at b) c.Bk.l).2.2=0
  .rw[(xw S)]at k xe s xn;rw[S]at k s;have xc:Bj t f (EU t.l (Cj t.l e a).1 a).1 T 0 (λb=>(u b\/b=d)\/b=q):=by grind
   have xV:xx W9 117 [.p t.x 0,.n a] h=jj W9 117 12 [.p d 0,.p t.x 0,.n a,.p q 0,.b ((EU t.l (Cj t.l e a).1 a).2.1||(Cj t.l e a).2)] f:=by grind
   have xZ:=s.M;by_cases xg:c.A_.l=0
   .have w:El t.l e a=((EU t.l (Cj t.l e a).1 a).1,(Cj t.l e a).2||(EU t.l (Cj t.l e a).1 a).2.1,0):=by
     unfold El
     grind
    rw[w]
    refine⟨λ_=>⟨f,T,AZ B B ?_,xc.sub P,P,P⟩,P⟩
    have xh:(c.A_.l:K)=0:=by omega
    rw[xV,D_.2.2.2.2.2.2.1]
    simp only[Lk,xi,DF AF.c c.A_,xh,QB]
    grind
   .have w:El t.l e a=((ER t.l (EU t.l (Cj t.l e a).1 a).1 a).1,((Cj t.l e a).2||(EU t.l (Cj t.l e a).1 a).2.1)||(ER t.l (EU t.l (Cj t.l e a).1 a).1 a).2.1,(ER t.l (EU t.l (Cj t.l e a).1 a).1 a).2.2):=by
     unfold El
     grind
    rw[w]
    have xG:a<(EU t.l (Cj t.l e a).1 a).1.Ac.l:=by rw[xl.A7];grind
    have xD:f.M d=A (.I 7 (Ks ((EU t.l (Cj t.l e a).1 a).1.at a) (i (.An a)) (i (.AG a)) (i (.AS a)))):=by rw[es xa,es Z];exact(xu d P).t ((xt d P).t V)
    let⟨xW,xX⟩:=AaK m (ZP m F x xj) xc P P P xD xG (by rw[xa.AP];grind) (y.En xa) xi xg ((EU t.l (Cj t.l e a).1 a).2.1||(Cj t.l e a).2)
    have xh:¬(c.A_.l:K)=0:=by omega
    have x9:jj W9 117 12 [.p d 0,.p t.x 0,.n (a:K),.p q 0,.b ((EU t.l (Cj t.l e a).1 a).2.1||(Cj t.l e a).2)] f=jj W9 117 11 [.p d 0,.p t.x 0,.n (a:K),.p q 0,.b ((EU t.l (Cj t.l e a).1 a).2.1||(Cj t.l e a).2)] f:=by rw[D_.2.2.2.2.2.2.1];simp only[Lk,H (DF AF.c c.A_),QB, *]
    constructor
    .intro Y;let⟨X,U,xN,M,xs,xv⟩:=xW Y
     refine⟨X,U,AZ B B ?_,M.sub P,xs,P⟩;grind
    .intro Y;let⟨X,xB,U,xy,xN,M,xv⟩:=xX Y
     refine⟨X,xB,U,xy,AZ B B ?_,M.sub P,P⟩;grind
  .let⟨x7,R⟩:=R S
   rw[R]at k s;have xC:(EU t.l (Cj t.l e a).1 a).2.2=6:=by grind
   unfold El;simp only[];rw[Ad o,Af (by grind),xC];refine⟨Om,λ_=>⟨f,_,T,(F3 (Fx t.l ((Cj t.l e a).1.at a)) p ⟨((Cj t.l e a).1.at a).Az,Aa,L⟩ ((Cj t.l e a).1.at b) c.Bk.l).2.1||(Cj t.l e a).2,AZ B B ?_,k.sub P,P⟩⟩;have xZ:=s.M;rw[xn,D_.2.2.2.2.2.2.1];by_cases xg:(c.A_.l:K)=0;.simp only[Lk,H (DF AF.c c.A_),QB, *]
   .simp only[Lk,Int.reduceEq,H (DF AF.c c.A_),QB, *]
end
section
variable{t:EC} {h:G} {e:Ai} {v:C (C (C K))} {w:K} {u:T->Prop}
theorem Bj.Hw(d:Bj t h e v w u):∃c,h.Ap t.x 1=A c/\DX [c]=A (.n e.Ac.l)/\h.Ap t.x 7=A (.n w):=by
 let⟨i,f,a,g⟩:=d
 have b:=Cp (a.Db .Ac);rw[Ad0]at b;exact⟨f .Ac,a.cv,b,Ay a.M 7⟩
theorem eJ(c:Bj t h e v w u){a:D}(g:e.Ac.l<=a\/w≠0)(b:Ah):jj W9 58 9 [.n a,.b b,.p t.x 0] h=jj W9 58 8 [.b b,.p t.x 0] h:=by
 let⟨k,_,i,j⟩:=c.Hw
 rw[kU.2.2.2.2.1];by_cases d:a<(e.Ac.l:K)
 .have f:¬w=0:=by grind
  simp only[QY,H _,QB, *]
 .simp only[QY,H _,QB, *]
theorem iO(o:BD t.l){c:D}(V:c=400){b:Ai}(y:BY t.l b):∀(f a:D){h:G}{v:C (C (C K))},a+f=c->(B9 t.l b a).2.2=0->Bj t h (B9 t.l b a).1 v 0 u->CJ (B9 t.l b a).1 v->((B9 t.l b c).2.2=0->∃d l,jj W9 58 9 [.n a,.b (B9 t.l b a).2.1,.p t.x 0] h=jj W9 58 8 [.b (B9 t.l b c).2.1,.p t.x 0] d/\Bj t d (B9 t.l b c).1 l 0 u/\CJ (B9 t.l b c).1 l/\Bo u h d)/\((B9 t.l b c).2.2≠0->∃d R l Q,jj W9 58 9 [.n a,.b (B9 t.l b a).2.1,.p t.x 0] h=jj W9 58 8 [.b Q,.p t.x 0] d/\Bj t d R l (B9 t.l b c).2.2 u/\Bo u h d)
 |f,a,h,v,xb,T,j,s=>by
  have z:=Tv o y a;have xc:=z.W.sh.A7;by_cases F:a<(B9 t.l b a).1.Ac.l
  .cases f with
   |zero=>omega
   |succ f=>
    let⟨X,Y⟩:=qX o z j s F
    have M:B9 t.l b (a+1)=((El t.l (B9 t.l b a).1 a).1,(B9 t.l b a).2.1||(El t.l (B9 t.l b a).1 a).2.1,(El t.l (B9 t.l b a).1 a).2.2):=by
     rw[Rx,Ad]
     rintro(g|g)
     .grind
     .grind
    let⟨xj,xe,xd,xf⟩:=j.Hw
    have I:a<((B9 t.l b a).1.Ac.l:K):=by omega
    by_cases p:(El t.l (B9 t.l b a).1 a).2.2=0
    .let⟨m,q,W,n,Z,x⟩:=X p
     have U:(B9 t.l b (a+1)).2.2=0:=by grind
     have N:Bj t m (B9 t.l b (a+1)).1 q 0 u:=by grind
     have P:CJ (B9 t.l b (a+1)).1 q:=by grind
     have xg:jj W9 58 9 [.n (a:K),.b (B9 t.l b a).2.1,.p t.x 0] h=jj W9 58 9 [.n ((a+1:D):K),.b (B9 t.l b (a+1)).2.1,.p t.x 0] m:=by rw[kU.2.2.2.2.1,M];simp only[QY,H (Eg t.x),I,QB,kU.2.2.2.2.2.1,LR,kU.2.2.2.2.2.2.1,H (Bh (a:=a) (by omega)), *];rw[Bool.or_comm]
     let⟨xh,xi⟩:=iO o V y f (a+1) (by omega) U N P
     constructor;.grind
     .grind
    .have J:(B9 t.l b (a+1)).2.2≠0:=by grind
     have r:=Vy (.i J) c (by omega);rw[r];refine⟨λg=>BF g J,λ_=> ?_⟩;let⟨m,xa,q,E,W,n,x⟩:=Y p
     have S:=eJ n (a:=a+1) (.j p) (E||(B9 t.l b a).2.1);refine⟨m,_,_,E||(B9 t.l b a).2.1,?_,by rw[M];exact n,x⟩;rw[<-S,kU.2.2.2.2.1];simp only[QY,H _,I,QB,kU.2.2.2.2.2.1,LR,kU.2.2.2.2.2.2.1,H (Bh (a:=a) (by omega)), *]
  .have r:=Vy (.j F) c (by omega);rw[r];refine⟨λ_=>⟨h,v,eJ j (.i (by omega)) _,j,s,λ_ _=>B⟩,λg=>BF T g⟩
theorem eI(b:Bj t h e v w u)(a:Ah)(d:a=Aa\/w≠0):jj W9 58 8 [.b a,.p t.x 0] h=jj W9 58 7 [.p t.x 0] h:=by
 let⟨i,_,f,g⟩:=b.Hw
 rw[kU.2.2.1]
 cases a with
 |false=>simp only[↓Q,↓QT,AdM,QB]
 |true=>
  have c:¬w=0:=by grind
  simp only[QY,QB, *]
theorem gA(r:BD t.l){g:D}(N:g=400):∀{P:D}{e:Ai}{d:Ai×K}{h:G}{v:C (C (C K))},IF t.l g P e=A d->BY t.l e->Bj t h e v 0 u->CJ e v->(d.2=0->∃f n,jj W9 58 8 [.b L,.p t.x 0] h=jj W9 58 7 [.p t.x 0] f/\Bj t f d.1 n 0 u/\CJ d.1 n/\Bo u h f)/\(d.2≠0->∃f S n,jj W9 58 8 [.b L,.p t.x 0] h=jj W9 58 7 [.p t.x 0] f/\Bj t f S n d.2 u/\Bo u h f)
 |0,e,d,h,v,a,x,p,I=>by cases a
 |P+1,e,d,h,v,a,x,p,I=>by
  let⟨xd,xb,xa,xc⟩:=p.Hw
  have o:jj W9 58 8 [.b L,.p t.x 0] h=jj W9 58 9 [.n 0,.b Aa,.p t.x 0] h:=by rw[kU.2.2.1];simp only[QY,QB,kU.2.2.2.1, *]
  let⟨W,X⟩:=iO (u:=u) r N x g 0 (by omega) B p I
  unfold IF at a;by_cases j:(B9 t.l e g).2.2=0
  .rw[Ad (λc=>c j)]at a;let⟨E,M,b,i,J,k⟩:=W j
   have b:=b;by_cases y:(B9 t.l e g).2.1=L
   .rw[Af y]at a;rw[y]at b;let⟨Y,Z⟩:=gA r N a (Tv r x g) i J
    constructor
    .intro c;let⟨F,z,H,q,Q,s⟩:=Y c
     exact⟨F,z,(o.t b).t H,q,Q,λm l=>(s m l).t (k m l)⟩
    .intro c;let⟨F,U,z,H,q,s⟩:=Z c
     exact⟨F,U,z,(o.t b).t H,q,λm l=>(s m l).t (k m l)⟩
   .rw[Ad y]at a;cases a
    have V:=eI i (B9 t.l e g).2.1 (.i (by grind));exact⟨λ_=>⟨E,_,(o.t b).t V,i,J,k⟩,λc=>BF B c⟩
  .rw[Af j]at a;cases a
   refine⟨λc=>BF c j,λ_=> ?_⟩;let⟨E,T,M,R,b,i,k⟩:=X j
   have b:=b;exact⟨E,T,M,(o.t b).t (eI i R (.j j)),i,k⟩
end
section
variable{t:EC} {h:G} {e:Ai} {v:C (C (C K))} {y:K} {u:T->Prop}
def OL(a:Ah):K:=if a=L then 6 else 0
theorem uF(S:BD t.l)(p:Bj t h e v y u){a n:D}(xa:a<e.Ac.l){I:D}{x:Ab}(b:Dw t.l I x (e.at a)){c:Au}(d:x.Av[n]? =A c):∃G,jj W9 58 5 [.n n,.n a,.p t.x 0] h=jj W9 58 4 [.n n,.n a,.p t.x 0] G/\Bj t G e v (if HB (e.at a) c=L then 6 else y) u/\Bo u h G:=by
 have r:=(S.Bc I x b.hb).Ax n c d;have xo:=r.some S;have xt:∀J,u J->Lv h J:=λJ xl=>p.C4 xl;let⟨xn,xe,T,xs⟩:=p
 let⟨xc,g,xz,xb,R,xp⟩:=Xe T xa ⟨⟨I,b.ha,b.hb⟩,d⟩ (b.CQ r.A3) (by omega)
 have s:=T.ext R;have q:=p.ext R;have xB:=s.M;let⟨j,xx,xg,_⟩:=s.B0 xa
 rw[b.ha]at xg;unfold HB;by_cases E:c.op=6
 .have X:=r.M3 (.j (.i E));let⟨xh,xj⟩:=Bb (b:=c.A3) (a:=0) (by omega)
  let⟨xi,xk⟩:=Bb (b:=c.A3) (a:=1) (by omega)
  rw[A0 E,Aep,xj,xk,Aeg,Aeg];generalize xu:Bs (e.at a) xh=M;generalize xv:Bs (e.at a) xi=Q;have Y:(c.A3.m (Bs (e.at a)))[0]? =A M:=by grind
  have Z:(c.A3.m (Bs (e.at a)))[1]? =A Q:=by grind
  let⟨k,U⟩:=CD (f:=N.c) (w:=2) (λ_=>B) xb Y
  let⟨m,V⟩:=CD (f:=N.c) (w:=2) (λ_=>B) xb Z
  have xw:AR 2 [xc,.n 0]=A (.p k (0*2)):=U.ia;have xq:Bl 0 [.p k (0*2)]=A (.p k (0*2+0)):=by rw[EG]
  have xC:AM g [.p k (0*2+0)]=A (.i .u8 M.Ak):=by exact(U.Ap (f:=N.c) (w:=2) (λ_=>B) Y (b:=0) (by omega))
  have xy:AR 2 [xc,.n 1]=A (.p m (1*2)):=V.ia;have xr:Bl 0 [.p m (1*2)]=A (.p m (1*2+0)):=by rw[EG]
  have xD:AM g [.p m (1*2+0)]=A (.i .u8 Q.Ak):=by exact(V.Ap (f:=N.c) (w:=2) (λ_=>B) Z (b:=0) (by omega))
  by_cases z:M.Ak=0;.rw[A0 z,Ad (by grind)];refine⟨g,?_,q,P⟩;rw[kU.2.2.2.2.2.2.2.2.2.2.2.1];simp only[QY,H (Eg t.x),H (Ha j a 0),H (CB b.hb),H (Fa d),QB, *]
  .by_cases W:Q.Ak=0;.rw[A2 z,A0 W,Ad (by grind)];refine⟨g,?_,q,P⟩;rw[kU.2.2.2.2.2.2.2.2.2.2.2.1];simp only[QY,H (Eg t.x),H (Ha j a 0),H (CB b.hb),H (Fa d),QB, *]
   .rw[A2 z,A2 W,Af (by rfl)];let⟨X,xE,xf,xd⟩:=s.RG 6
    let⟨xm,xA⟩:=xd.Fp (by grind) (b:=u) P
    refine⟨X,?_,⟨xn,xe,xf,xm⟩,P⟩;rw[kU.2.2.2.2.2.2.2.2.2.2.2.1];simp only[QY,H (Eg t.x),H (Ha j a 0),H (CB b.hb),H (Fa d),QB, *]
 .rw[A2 E,AeO,Ad (by grind)];refine⟨g,?_,q,P⟩;rw[kU.2.2.2.2.2.2.2.2.2.2.2.1];simp only[QY,H (Eg t.x),H (Ha j a 0),H (CB b.hb),H (Fa d),QB, *]
theorem kc{f:Type}{b:C _}{a:D}{d:f}(h:b[a]? =A d)(c:f->Ah):(b.t (a+1)).any c=((b.t a).any c||c d):=by rw[<-FL h,List.any_append];simp
theorem uK(E:BD t.l)(p:Bj t h e v 0 u){a:D}(x:a<e.Ac.l){N:D}{b:Ab}(o:Dw t.l N b (e.at a)):∃c,jj W9 58 3 [.n 0,.n a,.p t.x 0] h=jj W9 58 2 [.n a,.p t.x 0] c/\Bj t c e v (OL (b.Av.any (HB (e.at a)))) u/\Bo u h c:=by
 have xe:=(E.Bc N b o.hb).Av;have Q:∀{h:G}{y:K}(_:Bj t h e v y u),∃d l m,h.Ap t.x 1=A m/\AR 7 [m,.n a]=A (.p d (a*7))/\AM h [.p d (a*7+6)]=A l/\DX [l]=A (.n b.Av.l):=λ{h y} p=>by
  let⟨xf,xa,r,xd⟩:=p
  let⟨d,k,_,_,_,_,_,_,j⟩:=r.B0 x
  have g:=Cp (r.Db (.AS a) x);rw[o.AS]at g;exact⟨d,_,_,r.cv,k,j,g⟩
 let⟨⟨⟩,c,w,q,U⟩:=Dh (h:=b.Av.l) (f:=λf _ h=>jj W9 58 3 [.n f,.n a,.p t.x 0] h) (g:=λf _ c=>Bj t c e v (OL ((b.Av.t f).any (HB (e.at a)))) u/\Bo u h c)
  (λf _ xc J T=>by
   let⟨z,Y⟩:=T
   let⟨R,M⟩:=Bb J
   let⟨d,l,m,S,k,j,g⟩:=Q z
   let⟨V,W,X,Z⟩:=uF E z x o M
   refine⟨(),V,?_,?_,P⟩;.show jj W9 58 3 _ _=jj W9 58 3 _ _;rw[kU.2.2.2.2.2.2.2.2.2.2.1];simp only[QY,S,k,j,g,(Cm J)];rw[W,kU.2.2.2.2.2.2.2.2.2.2.2.2];simp only[↓H (Bh (a:=f) (by omega))]
   .rw[kc M];have:OL ((b.Av.t f).any (HB (e.at a))||HB (e.at a) R)=if HB (e.at a) R=L then 6 else OL ((b.Av.t f).any (HB (e.at a))):=by unfold OL;grind
    grind)
  (b:=()) (a:=h) ⟨by rw[Af1];exact p,P⟩
 have w:jj W9 58 3 [.n 0,.n a,.p t.x 0] h=jj W9 58 3 [.n b.Av.l,.n a,.p t.x 0] c:=w;rw[Gz]at q;let⟨d,l,m,S,k,j,g⟩:=Q q
 have xb:=CA b.Av.l;refine⟨c,?_,q,U⟩;rw[w,kU.2.2.2.2.2.2.2.2.2.2.1];simp only[QY,H (Eg t.x),H (Ha d a 6), *]
theorem Zq(b:Bj t h e v y u){a:D}(f:e.Ac.l<=a\/y≠0):jj W9 58 1 [.p t.x 0,.n a] h=A (.AB [],h):=by
 let⟨j,_,g,i⟩:=b.Hw
 rw[kU.2.2.2.2.2.2.2.1];by_cases c:a<(e.Ac.l:K)
 .have d:¬y=0:=by grind
  simp only[QY,H _,QB, *]
 .simp only[QY,H _,QB, *]
def TP(b:C Ab)(a:AK):Ah:=(F4 b a).Av.any (HB a)
theorem h8(o:BD t.l)(f:CF t.l e):∀(g a:D){h:G},a+g=e.Ac.l->(e.Ac.t a).any (TP t.l)=Aa->Bj t h e v 0 u->∃k,jj W9 58 1 [.p t.x 0,.n a] h=A (.AB [],k)/\Bj t k e v (PC t.l e) u/\Bo u h k
 |0,a,h,x,m,b=>by
  have:a=e.Ac.l:=by omega
  subst this;rw[Gz]at m;have j:PC t.l e=0:=by unfold PC;rw[Ad];intro q;have q:e.Ac.any (TP t.l)=L:=q;grind
  rw[j];exact⟨h,Zq b Om,b,P⟩
 |g+1,a,h,x,m,b=>by
  have l:a<e.Ac.l:=by omega
  have V:=f.A7;let⟨X,d,n⟩:=f.BC a _ (Di l)
  let⟨p,z,c,r⟩:=uK o b l n
  let⟨Y,F,E,I⟩:=b.Hw
  have s:a<(e.Ac.l:K):=by omega
  have N:jj W9 58 1 [.p t.x 0,.n (a:K)] h=jj W9 58 1 [.p t.x 0,.n ((a+1:D):K)] p:=by rw[kU.2.2.2.2.2.2.2.1];simp only[QY,F,E,s,I,QB,kU.2.2.2.2.2.2.2.2.1];rw[z,kU.2.2.2.2.2.2.2.2.2.1];simp only[↓H (Bh (a:=a) (by omega))]
  have w:TP t.l (e.at a)=d.Av.any (HB (e.at a)):=by unfold TP;rw[n.Ca]
  have Q:=kc (Di l) (TP t.l);rw[m,Ae6,w]at Q;by_cases T:d.Av.any (HB (e.at a))=L
  .have j:PC t.l e=6:=by
    unfold PC
    rw[Af]
    show e.Ac.any (TP t.l)=L
    grind
   have M:OL (d.Av.any (HB (e.at a)))=6:=by unfold OL;grind
   rw[M]at c
   rw[j]
   exact⟨p,N.t (Zq c Om),c,r⟩
  .have J:OL (d.Av.any (HB (e.at a)))=0:=by unfold OL;grind
   rw[J]at c;let⟨U,W,R,S⟩:=h8 o f g (a+1) (by omega) (by grind) c
   grind
theorem gb(g:BD t.l){m q:D}(E:m=400){b:Ai×K}(k:Ib t.l m q e=A b)(o:BY t.l e)(s:Bj t h e v 0 u)(w:CJ e v):(b.2=0->∃a d,W9 (pos 58) [.p t.x 0] h=A (.AB [],a)/\Bj t a b.1 d 0 u/\CJ b.1 d/\Bo u h a)/\(b.2≠0->∃a x d,W9 (pos 58) [.p t.x 0] h=A (.AB [],a)/\Bj t a x d b.2 u/\Bo u h a):=by
 unfold Ib at k
 cases j:IF t.l m q e with
 |none=>grind
 |some r=>
  rw[j]at k;cases k
  let⟨G,H⟩:=gA g E j o s w
  by_cases i:r.2=0
  .rw[Ad Om];let⟨f,p,l,c,J,n⟩:=G i
   let⟨P,F,I,M⟩:=h8 g (zas g o j).W.sh r.1.Ac.l 0 (by omega) (by grind) c
   have Q:=AZ B B (by rw[kU.1,l,kU.2.1];exact F);grind
  .rw[Af i];refine⟨Om,λ_=> ?_⟩;let⟨f,z,p,l,c,n⟩:=H i
   have N:jj W9 58 1 [.p t.x 0,.n 0] f=A (.AB [],f):=Zq c Om;exact⟨f,z,p,AZ B B (by rw[kU.1,l,kU.2.1];grind),c,n⟩
end
theorem b8{h t:G}{a:T}(e:DR (h.M a)=DR (t.M a))(b c:D):h.AL a b c=t.AL a b c/\h.Ap a b=t.Ap a b:=by
 constructor;.unfold G.AL G.I;rw[e]
 .unfold G.Ap G.I;rw[e]
theorem Ro.JE{h:G}{q:F}{a:C N}(I:Ro h q N.c 2 a){i:D}{m:N}(j:a[i]? =A m):∃d,AR 2 [q,.n i]=A (.p d (i*2))/\h.AL d (i*2) 2=A (N.c m)/\AM h [.p d (i*2+0)]=A (.i .u8 m.Ak):=by
 rcases I with⟨_,rfl⟩|⟨d,r,rfl,x,M⟩;.grind
 .have J:Aw (h.set d (.I (a.l*2) (a.f N.c))) (.Z d 0 a.l (a.l+1) 2) N.c 2 a:=.j ⟨d,a.l+1,B,.j B,by rw[AN,Af B],by grind⟩;let⟨g,l⟩:=CD (f:=N.c) (w:=2) (λ_=>B) J j
  have E:=NU _ l.nb;subst E;have p:DR (h.M g)=DR ((h.set g (.I (a.l*2) (a.f N.c))).M g):=by rw[AN,Af B,x];rfl
  have H:=(AdN.1 j).1;refine⟨g,?_,by rw[(b8 p _ _).1];exact l.AL (f:=N.c) (λ_=>B) j,?_⟩;.have:=e4 (b:=2) (d:=g) (e:=0) (c:=a.l) (f:=r) (g:=.n) H;rw[Ad2]at this;grind
  .show h.Ap g (i*2+0)=_;rw[(b8 p _ 0).2];have:=l.Ap (f:=N.c) (w:=2) (λ_=>B) j (b:=0) (by omega);exact this
section
variable{v:EC} {h t:G} {e:Ai} {s:C (C (C K))} {y:K} {u:T->Prop}
theorem ki{b:C Bz}(xk:b.l<1000000):∀(k c:D){h:G}{e:Ai},c+k=b.l->Bj v h e s y u->(∀a∈b,IY e a)->e.Ac.l<=400->∃t,jj W9 114 1 [.p v.x 0,Z Bz.c b,.n c] h=A (.AB [],t)/\Bj v t ((b.d c).foldl HY e) s y u/\Bo u h t
 |0,c,h,e,xh,r,q,xi=>by
  have:c=b.l:=by omega
  subst this;have Y:=CA b.l;refine⟨h,?_,by grind,λ_ _=>B⟩;rw[Nk.2.2.2.1];simp only[↓Q,↓QT,AdM,↓H (DF Bz.c b),Y]
 |k+1,c,h,e,xh,r,q,xi=>by
  have n:c<b.l:=by omega
  let⟨a,o⟩:=Bb n
  let⟨d,f,E,m,x,xC,xF,xG,xq,F,xr⟩:=q a (AdU o)
  have l:d<e.Ac.l:=by grind
  have xa:=DK xq;subst xa;have M:=r;let⟨xv,j,g,xg⟩:=M
  have xu:=g.cv;let⟨xB,xl,_,_,_,_,_,X,_⟩:=g.B0 l
  let⟨V,xm,xw⟩:=g.Ga l F
  have xx:AM h [.p V (f*1)]=A (j (.AD d f)):=xw;let⟨U,xD,p,_,_,xy,T,R⟩:=g.PP l F xr a.v
  have p:AR 2 [j (.AD d f),.n 0]=A (.p U (0*2)):=p;let⟨xs,xt⟩:=R.Fp (by grind) xg
  have xn:AR 3 [Z Bz.c b,.n c]=A (.pi (Bz.c a)):=EZ o B;have xd:Bl 0 [.pi (Bz.c a)]=A (.pi ((Bz.c a).d 0)):=B;have xo:AM h [.pi ((Bz.c a).d 0)]=A (.n (1000*d+f:D)):=by rw[<-E];rfl
  have xe:Bl 1 [.pi (Bz.c a)]=A (.pi ((Bz.c a).d 1)):=B;have xp:A9 2 h [.pi ((Bz.c a).d 1)]=A (.S (N.c a.v)):=B;have xb:=i1 x m;have xc:=jm x m;have w:HY e a=e.AD d f 0 a.v:=cN E m;have W:=Cm n;let⟨xf,xE,P,S⟩:=ki xk k (c+1) (by omega) ⟨xv,j,T,xs⟩ (λxz xj=>by rw[<-w];exact(q xz xj).F1 a) (by show(e.AJ d _).Ac.l<=400;rw[Ej];grind)
  let⟨xH,J,xA⟩:=Ds n
  rw[o]at J;cases J;rw[xA,AeY,w];refine⟨xf,?_,P,λI z=>(S I z).t (xt I z)⟩;rw[Nk.2.2.2.1];simp only[QY,DF Bz.c b,W,Nk.2.2.2.2.1,xu,xn,xd,xo,xb,xl,X,xc,xm,xx,xe,xp,p,xy,Nk.2.2.2.2.2,Bh (a:=c) (by omega)];grind
end
theorem h7{e:Ai}{a b c:N}:Eh e ⟨2,a,b,c,0⟩=if(C9 e.Am a b c).2.2≠0 then(e,AO,(C9 e.Am a b c).2.2)else((C9 e.Am a b c).2.1.foldl HY ⟨e.Ac,(C9 e.Am a b c).1,e.round,e.AA⟩,NM (C9 e.Am a b c).2.2,0):=rfl
theorem Aba{a:C AE}{b c d:N}(h:b.Ak=5\/c.Ak=5):C9 a b c d=(a,[],0):=by
 unfold C9;rw[Af];unfold G0;rcases h with h|h;.grind
 .grind
theorem WT(a b c:F):CO 0 [.AB [a,b,c]]=A a:=rfl
theorem WV(b a c:F):CO 1 [.AB [b,a,c]]=A a:=rfl
theorem WW(b c a:F):CO 2 [.AB [b,c,a]]=A a:=rfl
section
variable{t:EC} {h:G} {e:Ai} {v:C (C (C K))} {u:T->Prop}
theorem BZ.jO{d:T->Bm}{g:T}{j:C _}{c:K}{i:Bm->F}(l:BZ d h j g e v c i)(a:C AE):∃b,AX 1 h [.p g 2,.S (Bp a)]=A (AC,b)/\BZ d b j g ⟨e.Ac,a,e.round,e.AA⟩ v c i/\EM d h b .Ex:=by
 let⟨b,o,n,k⟩:=l.Wt 2 (Z AE.c a) (by omega) B B (g:=a) (i:=e.round) (f:=e.AA) (d:=c) B
 exact⟨b,by rw[show(F.S (Bp a))=.S [Z AE.c a]from B,cw B];grind,n,k⟩
theorem q6(m:Bj t h e v 0 u){j:F}{k:C N}(r:Ro h j N.c 2 k){a b c:N}(xi:k[0]? =A a)(xj:k[1]? =A b)(xk:k[2]? =A c)(V:Ft e.Am)(xu:B5 e.Am.l a)(xo:e.Ac.l<=400)(xw:(C9 e.Am a b c).2.1.l<1000000)(xx:∀w∈(C9 e.Am a b c).2.1,IY e w):((Eh e ⟨2,a,b,c,0⟩).2.2=0->∃g,W9 (pos 114) [.p t.x 0,j] h=A (.AB [],g)/\Bj t g (Eh e ⟨2,a,b,c,0⟩).1 v 0 u/\Bo u h g)/\((Eh e ⟨2,a,b,c,0⟩).2.2≠0->∃g,W9 (pos 114) [.p t.x 0,j] h=A (.AB [],g)/\Bj t g e v (Eh e ⟨2,a,b,c,0⟩).2.2 u/\Bo u h g):=by
 let⟨xa,S,xF,xz⟩:=r.JE xi
 let⟨xb,T,xG,xA⟩:=r.JE xj
 let⟨xc,U,xH,xB⟩:=r.JE xk
 have S:AR 2 [j,.n 0]=A (.p xa (0*2)):=S;have T:AR 2 [j,.n 1]=A (.p xb (1*2)):=T;have U:AR 2 [j,.n 2]=A (.p xc (2*2)):=U;rw[h7];have R:∀d,u d->Lv h d:=λd f=>m.C4 f;by_cases xg:a.Ak=5\/b.Ak=5
 .rw[Aba xg];refine⟨λ_=>⟨h,AZ B B ?_,m,λ_ _=>B⟩,λi=>BF B i⟩;rw[Nk.1];by_cases xe:a.Ak=5;.simp only[QY,QB, *]
  .have xf:b.Ak=5:=by grind
   simp only[QY,QB, *]
 .have xe:¬a.Ak=5:=by grind
  have xf:¬b.Ak=5:=by grind
  have W:=m;let⟨s,E,G,xy⟩:=W
  have xK:h.AL t.x 2 1=A (Bp e.Am):=by rw[D1 G.M,Af (by omega),Ad (by omega)];rfl
  have J:=po e.Am V.ok a b c (VH xu);let⟨i,M,xp,xn,l,xl,xD,xE⟩:=box h (.I 1 (Bp (C9 e.Am a b c).1))
  let⟨xL,xJ⟩:=EL h (b:=1) [.sn] (c:=Bp (C9 e.Am a b c).1) xp xn B B
  have xI:M.AL i 0 1=A (Bp (C9 e.Am a b c).1):=BB xl;have I:=G.ext l;have Q:∀d,u d->Lv M d/\s d=.C5:=by grind
  by_cases q:(C9 e.Am a b c).2.2=0
  .rw[Ad (λxt=>xt q)];refine⟨λ_=> ?_,λi=>BF B i⟩;let⟨P,xv,p,o⟩:=I.jO (C9 e.Am a b c).1
   let⟨x,y⟩:=o.Fp (by grind) Q
   let⟨xm,xC,z,X⟩:=ki xw (C9 e.Am a b c).2.1.l 0 (by omega) ⟨s,E,p,x⟩ (λw xq=>by
    let⟨xr,xs,Y,Z,xd,xh⟩:=xx w xq
    exact⟨xr,xs,Y,Z,xd,xh.of B⟩) xo
   rw[Ad7]at z;refine⟨xm,AZ B B ?_,z,λd f=>(X d f).t ((y d f).t (l.M (R d f)))⟩;rw[Nk.1];simp only[QY,QB,Nk.2.1,H (Qx t.x),J.H B,H (WT _ _ _),H (WV _ _ _),H (WW _ _ _),Nk.2.2.1, *];grind
  .rw[Af q];refine⟨λi=>BF i q,λ_=> ?_⟩;let⟨P,xv,p,o⟩:=I.RG (C9 e.Am a b c).2.2
   let⟨x,y⟩:=o.Fp (by grind) Q
   refine⟨P,AZ B B ?_,⟨s,E,p,x⟩,λd f=>(y d f).t (l.M (R d f))⟩;rw[Nk.1];simp only[QY,QB,Nk.2.1,H (Qx t.x),J.H B,H (WT _ _ _),H (WV _ _ _),H (WW _ _ _), *]
end
theorem hF{h:G}{b:T}{a:D}{c:F}(d:AM h [.p b a]=A c):Bv .Cq [.p b a] h c=L:=by show KI (AM h [.p b a]) c=L;rw[d];exact L0 _
open Classical in
def Mq(b:T->Bm)(h:G):T->Bm:=λa=>if Lv h a then b a else .C5
theorem PD{b:T->Bm}{h:G}{a:T}(c:Lv h a):Mq b h a=b a:=Af c
theorem Vk{c:T->Bm}{h:G}{a:T}(b:¬Lv h a):Mq c h a=.C5:=Ad b
theorem BZ.Vj{f:T->Bm}{h c:G}{d:C _}{g:T}{e:Ai}{v:C (C (C K))}{b:K}{a:Bm->F}(i:BZ f h d g e v b a)(k:AH h c):BZ (Mq f h) c d g e v b a:=i.TG λl j=>⟨P,P,PD j⟩
structure JK(t:EC)(k:Ai)(v:C (C (C K)))(u:T->Prop)(l m:D)(n:Au)(i:C N)(h:G)(c d b:T)(f:F)(g:T->Bm)(j:Bm->F):Prop where
 X:BZ g h t.l t.x k v 0 j
 hF:∀a,((u a\/a=c)\/(a=d\/a=b))\/¬As f a->Lv h a/\g a=.C5
 g4:h.M c=A (.I 2 (A5.c ⟨(l:K),(m:K)⟩))
 g8:h.M d=A (.I 4 (Au.c n))
 o4:h.M b=A (.I 2 (N.c (E5 i)))
 o:Ro h f N.c 2 i
 ap:∀a,((u a\/a=c)\/(a=d\/a=b))->As f a
section
variable{t:EC} {h:G} {e:Ai} {v:C (C (C K))} {u:T->Prop}
theorem Aal(yf:BD t.l)(yF:BY t.l e)(yc:Bj t h e v 0 u){d k:D}(xg:d<e.Ac.l){xl:D}{W:Ab}{g:Au}(I:Dw t.l xl W (e.at d))(xe:W.Av[k]? =A g)(V:K)(xO:e.AA≠6000):
  ∃xL m r E p ze yg,xx W9 57 [.p t.x 0,.S (A5.c ⟨d,k⟩),.n V] h=jj W9 57 6 [.b (Ao (g.op=1\/g.op=2\/g.op=3)),.b (Ao ((E5 (g.A3.m (Bs (e.at d)))).Ak=5)),.p E 0,.i .u8 g.op,.p t.x 0,.p r 0,.p m 0,yg (.AD d k),p] xL/\
   JK t (DO e ⟨d,k⟩ V) v u d k g (g.A3.m (Bs (e.at d))) xL m r E p ze yg/\Bo u h xL:=by
 have ye:=(yf.Bc xl W I.hb).Ax k g xe
 have zi:=ye.some yf
 have zv:=(AdN.1 xe).1
 let⟨zu,xo⟩:=yF.W.AA
 let⟨m,xM,y2,yY,xu,yO,zz,zC⟩:=box h (.I 2 (A5.c ⟨d,k⟩))
 have ya:∀(yd:F->G->R),bl (.p h.next 0) (h.V (.I (Bq (F.I (.S (A5.c ⟨d,k⟩)))) (F.I (.S (A5.c ⟨d,k⟩))))) yd=yd (.p m 0) xM:=Dy h (.I 2 (A5.c ⟨d,k⟩)) y2 yY
 let⟨zf,xk,yh,yQ⟩:=((yc.V xu).sub P:Bj t xM e v 0 (λc=>u c\/c=m))
 have x8:xM.Ap t.x 4=A (.n e.AA):=Ay yh.M 4
 have xH:=F2 (a:=e.AA) (b:=1) (by omega) (by omega)
 let⟨yp,x4,U,yD⟩:=yh.MZ (e.AA+1)
 let⟨ys,yB⟩:=yD.Fp (by grind) yQ
 have xI:=(yB m P).t yO
 have xy:yp.Ap m 0=A (.n d):=Ay xI 0
 have xz:yp.Ap m 1=A (.n k):=Ay xI 1
 let⟨s,xP,_⟩:=U.B0 xg
 let⟨p,xd,xS,zc,xi,yk⟩:=Xe U xg ⟨⟨xl,I.ha,I.hb⟩,xe⟩ (I.CQ ye.A3) (by omega)
 let⟨xs,J,xv,yR⟩:=((Bj.V (n:=t) (p:=λc=>u c\/c=m) ⟨zf,xk,U,ys⟩ xi).sub λc o=>by
  rcases o with o|o;.grind
  .exact .j ⟨λy7=>o (yk c y7),P⟩:Bj t xd ⟨e.Ac,e.Am,e.round,e.AA+1⟩ v 0 (λc=>(u c\/c=m)\/¬As p c))
 have xJ:=(xi.M P).t xI
 have xA:xd.Ap m 1=A (.n k):=Ay xJ 1
 have zd:xd.Ap t.x 1=A (xk .Ac):=(Ay ((xi.M U.lv).t U.M) 1)
 have xG:J .Ac=xk .Ac:=by have:=xv.cv;grind
 have xX:Aj (Bv .Cq [.p m 0] xd (.n d)) (Aj (Bv .Cq [.p t.x 1] xd (xk .Ac)) L Aa) Aa=L:=by rw[GL (Ay xJ 0:xd.Ap m 0=A (.n d)),GL zd];rfl
 let⟨yI,y4,zl,zm,zn,zo,zp,zq,xC⟩:=xv.B0 xg
 rw[xG]at y4
 have yS:s=yI:=by grind
 subst yS
 let⟨zt,yW⟩:=Bb (b:=(e.at d).AS) (a:=k) (by rw[I.AS];grind)
 let⟨zk,q,xR,_,x5,xa,yE⟩:=xv.cp (a:=d) xg yW V
 let⟨xT,yC⟩:=yE.Fp (by grind) yR
 have xa:BZ xs q t.l t.x (DO e ⟨d,k⟩ V) v 0 J:=xa
 have ym:=(yC m P).t xJ
 have xB:q.Ap m 1=A (.n k):=Ay ym 1
 have xE:(DO e ⟨d,k⟩ V).at d={e.at d with AS:=(e.at d).AS.set k V}:=HE xg
 have xp:d<(DO e ⟨d,k⟩ V).Ac.l:=by show d<(e.Ac.set _ _).l;grind
 have x1:q.Ap t.x 0=A (Z Ab.c t.l):=Ay xa.M 0
 let⟨yJ,y5,xb,xc,xf,yj,zr,xD,zs⟩:=xa.B0 xp
 rw[xG]at y5
 have yT:s=yJ:=by grind
 subst yT
 rw[xE]at xb
 have xb:AM q [.p s (d*7+0)]=A (.n xl):=by rw[xb];show A (F.n (e.at d).Bc)=_;rw[I.ha]
 let⟨zA,yr⟩:=Bb (b:=(e.at d).AG) (a:=k) (by rw[I.AG];grind)
 let⟨xm,xQ,zg⟩:=xa.Ga (b:=d) (a:=k) xp (by rw[xE];exact yr)
 have x2:AM q [.p xm (k*1)]=A (J (.AD d k)):=zg
 have xo:Bl 2 [.pi (Ab.c W)]=A (.pi ((Ab.c W).d 2)):=B
 have xV:AM q [.pi ((Ab.c W).d 2)]=A (Z Au.c W.Av):=B
 have xW:A9 4 q [.pi (Au.c g)]=A (.S (Au.c g)):=B
 let⟨r,x,xr,yZ,xj,yP,za,zb⟩:=box q (.I 4 (Au.c g))
 let⟨yb,x6⟩:=EL q (b:=4) [.i .u8 0,.s [],.n 0,.sn] (c:=Au.c g) xr yZ B B
 have xw:=xa.Vj xj
 have xN:∀c,((u c\/c=m)\/c=r)\/¬As p c->Lv x c/\Mq xs q c=.C5:=λc o=>by
  rcases o with(o|rfl)|o;.have:=xT c P;exact⟨P,by rw[PD P];grind⟩
  .exact⟨za,Vk zb⟩
  .have:=xT c P;exact⟨P,by rw[PD P];grind⟩
 have yn:=(xj.M P).t ym
 have zB:∀{c:T}{Y:D}{x7:F},AM q [.p c Y]=A x7->Lv q c->AM x [.p c Y]=A x7:=λ{c Y x7} y3 zw=>by show x.Ap c Y=_;rw[((b8 (by grind) Y 0).2:x.Ap c Y=q.Ap c Y)];exact y3
 let⟨yK,y6,_,_,_,_,_,yM,_⟩:=xw.B0 xp
 rw[xG]at y6
 have yU:s=yK:=by grind
 subst yU
 let⟨yL,zx,zh⟩:=xw.Ga (b:=d) (a:=k) xp (by rw[xE];exact yr)
 have yV:xm=yL:=by grind
 subst yV
 have xY:Aj (Bv .Cq [.p xm (k*1)] x (J (.AD d k))) (Aj (Bv .Cq [.p m 1] x (.n k)) (Aj (Bv .Cq [.p s (d*7+5)] x (J (.AG d))) L Aa) Aa) Aa=L:=by rw[hF (zh:AM x [.p xm (k*1)]=A (J (.AD d k))),GL (Ay yn 1:x.Ap m 1=A (.n k)),hF yM];rfl
 have yy:Aw x p N.c 2 (g.A3.m (Bs (e.at d))):=by exact(zc.Ar P:Aw q p N.c 2 (g.A3.m (Bs (e.at d)))).ext xj
 let⟨z,yN,y⟩:=BS.FV (t:=λc=>¬As p c) (BS.cons (Fs.Cs (a:=N.c) (g:=2) (λc g=>g) (λ_=>B) (λ_=>B) yy) (BS.nil 2 x)) (by omega)
 have xU:=qZ (g.A3.m (Bs (e.at d))) (by grind) x _ z yN
 have yz:Ro z p N.c 2 (g.A3.m (Bs (e.at d))):=yy.ro.Ar λc yw xn o yA yq=>⟨y.p.1 c yw xn yq,by rw[y.l];grind⟩
 let⟨E,X,xq,yX,M,yl,y8,yx⟩:=box z (.I 2 (N.c (E5 (g.A3.m (Bs (e.at d))))))
 let⟨x9,x3⟩:=EL z (b:=2) [.i .u8 0,.n 0] (c:=N.c (E5 (g.A3.m (Bs (e.at d))))) xq yX B B
 have yi:∀c,(u c\/c=m)->As p c:=λc o=>yk c P
 have zj:As p r:=by grind
 have yo:z.M r=A (.I 4 (Au.c g)):=(y.o r P).t yP
 have yv:Lv z r:=by rw[y.l];grind
 have y9:Lv z m:=by rw[y.l];grind
 have x0:X.Ap E 0=A (.i .u8 (E5 (g.A3.m (Bs (e.at d)))).Ak):=Ay yl 0
 have xZ:X.Ap r 0=A (.i .u8 g.op):=Ay ((M.M yv).t yo) 0
 have xF:=Ch .u8 (E5 (g.A3.m (Bs (e.at d)))).Ak 5
 have yG:As p E:=AdS λxh=>yx (yz.Cz xh)
 have yH:∀c,((u c\/c=m)\/(c=r\/c=E))->As p c:=λc o=>by
  rcases o with o|rfl|rfl;.grind
  .grind
  .exact yG
 refine⟨X,m,r,E,p,_,J,?_,⟨((xw.Ar λc o y0=>⟨y.o c (λyA=>y0 (xN c (.j yA)).2),by rw[y.l];grind⟩:BZ (Mq xs q) z t.l t.x (DO e ⟨d,k⟩ V) v 0 J).Vj M),(λc o=>by
  by_cases xn:c=E;.subst xn;exact⟨y8,Vk yx⟩
  .have y1:((u c\/c=m)\/c=r)\/¬As p c:=by grind
   have:=xN c y1;have yu:Lv z c:=by rw[y.l];grind
   exact⟨M.lv yu,by rw[PD yu];grind⟩:∀c,((u c\/c=m)\/(c=r\/c=E))\/¬As p c->Lv X c/\Mq (Mq xs q) z c=.C5),(M.M y9).t ((y.o m (λxh=>xh (yi m (.j B)))).t yn:z.M m=A (.I 2 (A5.c ⟨d,k⟩))),(M.M yv).t yo,yl,(yz.Ar λc yw xn o _ yq=>⟨by rw[M.M o];grind,M.lv o⟩:Ro X p N.c 2 (g.A3.m (Bs (e.at d)))),yH⟩,λc o=> ?_⟩
 .have xK:∀(xt:Ah),xt=Ao (g.op=1\/g.op=2\/g.op=3)->jj W9 57 6 [.b xt,.b (Ao ((E5 (g.A3.m (Bs (e.at d)))).Ak=5)),.p E 0,.i .u8 g.op,.p t.x 0,.p r 0,.p m 0,J (.AD d k),p] X=jj W9 57 6 [.b (Ao (g.op=1\/g.op=2\/g.op=3)),.b (Ao ((E5 (g.A3.m (Bs (e.at d)))).Ak=5)),.p E 0,.i .u8 g.op,.p t.x 0,.p r 0,.p m 0,J (.AD d k),p] X:=λxt h=>by rw[h]
  rw[r57];by_cases xc:g.op=1;.rw[<-xK L (by rw[A0 (.i xc)])];simp only[↓ya,↓yb,↓x9,↓Q,↓QT,AdM,↓H (Pe t.x),↓H (Eg t.x),↓H x8,xO,b2,↓H xH,↓H x4,↓H U.cv,↓H xy,↓H xP,↓H xz,↓H xS,↓Gn xX,↓H (Ha s d 6),↓H xC,↓H xA,↓H xR,↓H x5,↓H x1,↓H (Ha s d 0),↓H xb,↓H (CB I.hb),↓H xo,↓H xV,↓H xB,↓H (Fa xe),↓H xW,↓H (Ha s d 5),↓H xD,↓H xQ,↓H x2,xr,↓H x6,↓Gn xY,↓H xU,xq,↓H x3,↓H x0,↓H xF,↓H xZ,xc]
  .by_cases xf:g.op=2;.rw[<-xK L (by rw[A0 (.j (.i xf))])];simp only[↓ya,↓yb,↓x9,↓Q,↓QT,AdM,Int.reduceEq,↓H (Pe t.x),↓H (Eg t.x),↓H x8,xO,b2,↓H xH,↓H x4,↓H U.cv,↓H xy,↓H xP,↓H xz,↓H xS,↓Gn xX,↓H (Ha s d 6),↓H xC,↓H xA,↓H xR,↓H x5,↓H x1,↓H (Ha s d 0),↓H xb,↓H (CB I.hb),↓H xo,↓H xV,↓H xB,↓H (Fa xe),↓H xW,↓H (Ha s d 5),↓H xD,↓H xQ,↓H x2,xr,↓H x6,↓Gn xY,↓H xU,xq,↓H x3,↓H x0,↓H xF,↓H xZ,xc,xf]
   .rw[<-xK (Ao (g.op=3)) (by by_cases yj:g.op=3<;>simp[xc,xf,yj])];simp only[↓ya,↓yb,↓x9,↓Q,↓QT,AdM,↓H (Pe t.x),↓H (Eg t.x),↓H x8,xO,b2,↓H xH,↓H x4,↓H U.cv,↓H xy,↓H xP,↓H xz,↓H xS,↓Gn xX,↓H (Ha s d 6),↓H xC,↓H xA,↓H xR,↓H x5,↓H x1,↓H (Ha s d 0),↓H xb,↓H (CB I.hb),↓H xo,↓H xV,↓H xB,↓H (Fa xe),↓H xW,↓H (Ha s d 5),↓H xD,↓H xQ,↓H x2,xr,↓H x6,↓Gn xY,↓H xU,xq,↓H x3,↓H x0,↓H xF,↓H xZ,xc,xf,↓H (Ch .u8 g.op 3)]
 .have yt:=(λc o=>yc.C4 o:∀c,u c->Lv h c) c o;have zy:=xu.lv yt;rw[M.M (by rw[y.l];exact(xN c (.i (.i (.i o)))).1),y.o c (λxh=>xh (yi c (.i o):As p c)),xj.M (xT c (.i (.i o))).1,yC c (.i (.i o)),xi.M (ys c (.i o)).1,yB c (.i o),xu.M yt]
end
def Kk(v:EC)(b:Ai)(z:C (C (C K)))(c:K)(y:T->Prop)(h:G)(d:R):Prop:=∃a,d=A (.AB [],a)/\Bj v a b z c y/\Bo y h a
theorem iG{a:Ai}{i j b:D}(f:i<a.Ac.l)(e c:N):(a.AD i j b e).AD i j b c=a.AD i j b c:=by
 unfold Ai.AD
 rw[HE f,LX]
 congr 1
 show({(a.at i)with AG:=CP (CP (a.at i).AG j b e) j b c})={(a.at i)with AG:=CP (a.at i).AG j b c}
 congr 1
 unfold CP
 cases d:(a.at i).AG[j]?with
 |none=>simp only[d]
 |some g=>rw[Aex (AdN.1 d).1];simp only[];rw[Ae5,Ae5]
section
variable{v:EC} {h:G} {t:Ai} {z:C (C (C K))} {y:T->Prop} {i j:D} {n:Au} {r:C N} {p o q:T} {u:F} {s:T->Bm} {w:Bm->F}
theorem OI{h:G}{d:T->Prop}(l:BZ s h v.l v.x t z 0 w)(x:∀a,d a->Lv h a/\s a=.C5){c:D}(F:FB t i j c)(f:N):∃e b,AR 2 [w (.AD i j),.n c]=A (.p e (c*2))/\AX 2 h [.p e (c*2),.S (N.c f)]=A (AC,b)/\BZ s b v.l v.x (t.AD i j c f) z 0 w/\(∀a,d a->Lv b a/\s a=.C5)/\Bo d h b:=by
 let⟨Q,S,V,g,H,I⟩:=F
 have E:=(AdN.1 g).1;have m:=DK g;subst m;let⟨e,b,R,_,_,U,J,k⟩:=l.PP E H I f
 let⟨M,P⟩:=k.Fp (by grind) x
 grind
theorem JK.AJ(f:JK v t z y i j n r h p o q u s w)(E:FB t i j 0)(e:N):∃b a,AR 2 [w (.AD i j),.n 0]=A (.p b (0*2))/\AX 2 h [.p b (0*2),.S (N.c e)]=A (AC,a)/\Bj v a (t.AD i j 0 e) z 0 y/\Bo y h a:=by
 let⟨b,a,g,k,l,m,x⟩:=OI f.X f.hF E e
 exact⟨b,a,g,k,⟨s,w,l,λd c=>m d (.i (.i (.i c)))⟩,λd c=>x d (.i (.i (.i c)))⟩
theorem ov(b:JK v t z y i j n r h p o q u s w)(d:Ah)(F:n.op=7)(m:FB t i j 0){a:N}(k:r[0]? =A a):Kk v (t.AD i j 0 a) z 0 y h (jj W9 57 6 [.b Aa,.b d,.p q 0,.i .u8 n.op,.p v.x 0,.p o 0,.p p 0,w (.AD i j),u] h):=by
 let⟨g,c,G,_⟩:=b.o.JE k
 have c:AR 2 [u,.n 0]=A (.p g (0*2)):=c;let⟨x,l,E,H,e,f⟩:=b.AJ m a
 refine⟨l,?_,e,f⟩;rw[Lg];simp only[QY,Int.reduceEq, *]
theorem oo(b:JK v t z y i j n r h p o q u s w)(d:Ah)(G:n.op=14)(x:FB t i j 0){a:N}(k:r[0]? =A a):Kk v (t.AD i j 0 (Na a)) z 0 y h (jj W9 57 6 [.b Aa,.b d,.p q 0,.i .u8 n.op,.p v.x 0,.p o 0,.p p 0,w (.AD i j),u] h):=by
 let⟨g,c,H,_⟩:=b.o.JE k
 have c:AR 2 [u,.n 0]=A (.p g (0*2)):=c;have l:=q3 a;let⟨E,m,F,I,e,f⟩:=b.AJ x (Na a)
 refine⟨m,?_,e,f⟩;rw[Lg];simp only[QY,Int.reduceEq,l.H B, *]
theorem ou(d:JK v t z y i j n r h p o q u s w)(X:Ah)(U:n.op=6)(m:FB t i j 0){c F:N}(P:r[0]? =A c)(xd:r[1]? =A F):Kk v (t.AD i j 0 (if c.Ak=0 then F else c)) z 0 y h (jj W9 57 6 [.b Aa,.b X,.p q 0,.i .u8 n.op,.p v.x 0,.p o 0,.p p 0,w (.AD i j),u] h):=by
 let⟨e,g,V,_⟩:=d.o.JE P
 have g:AR 2 [u,.n 0]=A (.p e (0*2)):=g;let⟨M,S,k,W,I,l,G⟩:=OI d.X d.hF m c
 have k:AR 2 [w (.AD i j),.n 0]=A (.p M (0*2)):=k;have E:Ro S u N.c 2 r:=d.o.Ar λa xp xc b xj xm=>⟨by grind,(l a (.j xj)).1⟩;let⟨Z,xn,_,T⟩:=E.JE P
 have xg:e=Z:=by grind
 subst xg;have R:Bl 0 [.p e (0*2)]=A (.p e (0*2+0)):=by rw[EG]
 let⟨xa,x,xk,_⟩:=E.JE xd
 have x:AR 2 [u,.n 1]=A (.p xa (1*2)):=x;have xi:i<t.Ac.l:=by let⟨xc,_,_,E,_⟩:=m;grind
 by_cases f:c.Ak=0
 .rw[Af f];let⟨xb,xe,xo,xl,J,xf,Y⟩:=OI I l (m.AD i j 0 c) F
  have xh:M=xb:=by grind
  subst xh;rw[iG xi]at J;refine⟨xe,?_,⟨s,w,J,λa b=>xf a (.i (.i (.i b)))⟩,λa b=>(Y a (.i (.i (.i b)))).t (G a (.i (.i (.i b))))⟩;rw[Lg];simp only[↓Q,↓QT,AdM,Int.reduceEq,U,↓H g,↓H V,↓H k,↓H W,↓H R,↓H T,f,↓H x,↓H xk,↓H xl]
 .rw[Ad f];refine⟨S,?_,⟨s,w,I,λa b=>l a (.i (.i (.i b)))⟩,λa b=>G a (.i (.i (.i b)))⟩;rw[Lg];simp only[↓Q,↓QT,AdM,Int.reduceEq,U,↓H g,↓H V,↓H k,↓H W,↓H R,↓H T,f]
theorem om(b:JK v t z y i j n r h p o q u s w)(d:Ah)(I:n.op=13)(x:FB t i j 0){a:N}(k:r[0]? =A a)(E:B5 t.Am.l a):Kk v (t.AD i j 0 (L2 t.Am a)) z 0 y h (jj W9 57 6 [.b Aa,.b d,.p q 0,.i .u8 n.op,.p v.x 0,.p o 0,.p p 0,w (.AD i j),u] h):=by
 let⟨g,c,J,_⟩:=b.o.JE k
 have c:AR 2 [u,.n 0]=A (.p g (0*2)):=c;have l:=q4 t.Am a (VH E);have P:h.AL v.x 2 1=A (Bp t.Am):=by rw[D1 b.X.M,Af (by omega),Ad (by omega)];rfl
 let⟨F,m,G,M,e,f⟩:=b.AJ x (L2 t.Am a)
 refine⟨m,?_,e,f⟩;rw[Lg];simp only[QY,Int.reduceEq,H (Qx v.x),l.H B, *]
end
section
variable{v:EC} {h:G} {t:Ai} {r:C (C (C K))} {z:T->Prop} {i j:D} {n:Au} {y:C N} {q o p:T} {u:F} {s:T->Bm} {w:Bm->F}
theorem h3{e:T->Prop}(E:BZ s h v.l v.x t r 0 w)(Q:∀k,e k->Lv h k/\s k=.C5)(R:FB t i j 0)(g:C AE)(l:N)(f:K):∃b c d a,AX 1 h [.p v.x 2,.S (Bp g)]=A (AC,c)/\AR 2 [w (.AD i j),.n 0]=A (.p b (0*2))/\AX 2 c [.p b (0*2),.S (N.c l)]=A (AC,d)/\AX 1 d [.p v.x 7,.n f]=A (AC,a)/\Bj v a (Ai.AD ⟨t.Ac,g,t.round,t.AA⟩ i j 0 l) r f e/\Bo e h a:=by
 let⟨c,U,F,m⟩:=E.jO g
 let⟨I,X⟩:=m.Fp (by grind) Q
 let⟨b,d,S,V,G,J,Y⟩:=OI F I (R.of B) l
 let⟨a,W,H,x⟩:=G.RG f
 let⟨M,Z⟩:=x.Fp (by grind) J
 exact⟨b,c,d,a,U,S,V,W,⟨s,w,H,M⟩,P⟩
theorem oh(b:JK v t r z i j n y h q o p u s w)(d:Ah)(J:n.op=10)(m:FB t i j 0){a:N}(k:y[0]? =A a)(e:Ft t.Am):Kk v (Ai.AD ⟨t.Ac,(Er t.Am a).1,t.round,t.AA⟩ i j 0 (Er t.Am a).2.1) r (Er t.Am a).2.2 z h (jj W9 57 6 [.b Aa,.b d,.p p 0,.i .u8 n.op,.p v.x 0,.p o 0,.p q 0,w (.AD i j),u] h):=by
 let⟨g,c,M,_⟩:=b.o.JE k
 have c:AR 2 [u,.n 0]=A (.p g (0*2)):=c;have T:h.AL v.x 2 1=A (Bp t.Am):=by rw[D1 b.X.M,Af (by omega),Ad (by omega)];rfl
 let⟨E,F,G,l,Q,I,R,S,f,x⟩:=h3 b.X b.hF m (Er t.Am a).1 (Er t.Am a).2.1 (Er t.Am a).2.2
 refine⟨l,?_,f.sub P,P⟩;rw[Lg];simp only[QY,Int.reduceEq,H (Qx v.x),(q5 t.Am e.ok a).H B, *]
theorem ol(c:JK v t r z i j n y h q o p u s w)(x:Ah)(U:n.op=12)(M:FB t i j 0){a b:N}(G:y[0]? =A a)(I:y[1]? =A b)(E:Ft t.Am)(T:B5 t.Am.l a)(xc:i<1000)(xd:j<1000):Kk v (Ai.AD ⟨t.Ac,(Eb t.Am a b (1000*i+j)).1,t.round,t.AA⟩ i j 0 (Eb t.Am a b (1000*i+j)).2.1) r (Eb t.Am a b (1000*i+j)).2.2 z h (jj W9 57 6 [.b Aa,.b x,.p p 0,.i .u8 n.op,.p v.x 0,.p o 0,.p q 0,w (.AD i j),u] h):=by
 let⟨f,d,k,_⟩:=c.o.JE G
 have d:AR 2 [u,.n 0]=A (.p f (0*2)):=d;let⟨g,e,l,_⟩:=c.o.JE I
 have e:AR 2 [u,.n 1]=A (.p g (1*2)):=e;have m:h.AL v.x 2 1=A (Bp t.Am):=by rw[D1 c.X.M,Af (by omega),Ad (by omega)];rfl
 have S:Aj (Bv (.ld 2) [.p g (1*2)] h (.S (N.c b))) (Aj (Bv (.ld 2) [.p f (0*2)] h (.S (N.c a))) (Aj (Bv (.ld 1) [.p v.x 2] h (.S (Bp t.Am))) L Aa) Aa) Aa=L:=by rw[U7 (by rw[F5,l];rfl),U7 (by rw[F5,k];rfl),U7 (by rw[F5,m];rfl)];rfl
 let⟨Z,xa,xb,J,V,R,W,X,F,Y⟩:=h3 c.X c.hF M (Eb t.Am a b (1000*i+j)).1 (Eb t.Am a b (1000*i+j)).2.1 (Eb t.Am a b (1000*i+j)).2.2
 refine⟨J,?_,F.sub P,P⟩;rw[Lg];simp only[↓Q,↓QT,AdM,Int.reduceEq,U,↓H (Qx v.x),↓H m,↓H d,↓H k,↓H e,↓H l,↓H (Ay c.g4 0:h.Ap q 0=A (.n i)),↓H (Ay c.g4 1:h.Ap q 1=A (.n j)),↓(q8 i j (by omega) (by omega)).H B,↓Gn S,↓(q7 t.Am E.ok a b (1000*i+j) (VH T)).H B,↓H V,↓H R,↓H W,↓H X]
theorem oq(b:JK v t r z i j n y h q o p u s w)(l:Ah)(W:n.op=4)(J:FB t i j 0)(I:y.l=Du n.A8)(N:0<Du n.A8)(Q:∀T∈y,PK T):Kk v (t.AD i j 0 (Kc n.A8 y)) r 0 z h (jj W9 57 6 [.b Aa,.b l,.p p 0,.i .u8 n.op,.p v.x 0,.p o 0,.p q 0,w (.AD i j),u] h):=by
 let⟨f,F,d⟩:=BS.FV (t:=λa=>¬As u a) (BS.cons ((Fs.im (c:=h) (a:=.s n.A8) B).up (by omega)) (BS.cons (b.o.fs (h:=λa=>¬As u a) (λa n=>n) (λ_=>B) (λ_=>B)) (BS.nil 2 h))) (by omega)
 have V:=q1 n.A8 y I N Q h _ f F;have U:=b.g8;let⟨E,G,g,X,m,x,R⟩:=OI (b.X.Ar λa e M=>⟨d.o a (λk=>M (b.hF a P).2),by rw[d.l];grind⟩) (λa e=>⟨by rw[d.l];exact(b.hF a P).1,(b.hF a P).2⟩:∀a,z a->Lv f a/\s a=.C5) J (Kc n.A8 y)
 have g:AR 2 [w (.AD i j),.n 0]=A (.p E (0*2)):=g;refine⟨G,?_,⟨s,w,m,x⟩,λa e=>(R a e).t (d.o a (λk=>k (b.ap a P)))⟩;rw[Lg];simp only[QY, *]
end
theorem AaE{c:D}{a b:N}(h:B5 c a):VZ a b=FZ a b:=by
 let⟨d,e⟩:=a
 unfold VZ FZ Eu;unfold B5 Gt BK at h;grind
theorem ne{e:C _}{c:Ab}{j:D}{n:Au}(z:H2 e c j n)(h:n.op=1\/n.op=2\/n.op=3){b:N}(d:b.Ak≠5):M_ n b=Sf n:=by
 unfold M_ Sf;rw[Ad d];rcases h with h|h|h;.grind
 .rw[Ad (by omega),Af h,Ad (by omega),Af h];rcases z.num h with a|a<;>rw[a]<;>rfl
 grind
section
variable{v:EC} {h:G} {t:Ai} {r:C (C (C K))} {z:T->Prop} {i j:D} {n:Au} {y:C N} {q o p:T} {u:F} {s:T->Bm} {w:Bm->F}
theorem og(c:JK v t r z i j n y h q o p u s w)(e:FB t i j 0){T:C Ab}{F:Ab}{S:D}(E:H2 T F S n)(U:n.op=1\/n.op=2\/n.op=3){a:N}(H:y=[a]):Kk v (t.AD i j 0 (M_ n a)) r 0 z h (jj W9 57 6 [.b L,.b (Ao ((E5 y).Ak=5)),.p p 0,.i .u8 n.op,.p v.x 0,.p o 0,.p q 0,w (.AD i j),u] h):=by
 have d:E5 y=if a.Ak=5 then a else AO:=by rw[H];rfl
 have l:=q0 n;have xa:=c.g8;let⟨k,m,x,xc,f,M,V⟩:=OI c.X c.hF e (Sf n)
 have x:AR 2 [w (.AD i j),.n 0]=A (.p k (0*2)):=x;have R:i<t.Ac.l:=by let⟨b,_,_,Z,_⟩:=e;grind
 by_cases b:a.Ak=5
 .rw[Af b]at d;have I:=c.o4;rw[d]at I⊢;have xb:m.AL p 0 2=A (N.c a):=BB P;let⟨G,J,Y,xd,g,X,W⟩:=OI f M (e.AD i j 0 (Sf n)) a
  have Q:k=G:=by grind
  subst Q;rw[iG R]at g;unfold M_;rw[Af b];rw[A0 b];refine⟨J,?_,⟨s,w,g,P⟩,P⟩;rw[Lg];simp only[QY,l.H B, *]
 .rw[Ad b]at d;rw[d,ne E U b];refine⟨m,?_,⟨s,w,f,P⟩,P⟩;have:Ao (AO.Ak=5)=Aa:=B;rw[this,Lg];simp only[QY,l.H B, *]
theorem ot(d:JK v t r z i j n y h q o p u s w)(E:Ah)(xe:n.op=5){b c:N}(M:y[0]? =A b)(Q:y[1]? =A c){F:D}(X:B5 F b){f:D}(U:(FZ b c).1=f)(V:FB t i j f):Kk v (t.AD i j f (FZ b c).2) r 0 z h (jj W9 57 6 [.b Aa,.b E,.p p 0,.i .u8 n.op,.p v.x 0,.p o 0,.p q 0,w (.AD i j),u] h):=by
 let⟨I,m,xf,_⟩:=d.o.JE M
 have m:AR 2 [u,.n 0]=A (.p I (0*2)):=m;let⟨J,x,xg,_⟩:=d.o.JE Q
 have x:AR 2 [u,.n 1]=A (.p J (1*2)):=x;have g:=q2 b c;rw[AaE X,U]at g;let⟨Y,k,W,T,e,R,xc,xd⟩:=box h (.I 2 (N.c (FZ b c).2))
 let⟨xk,xi⟩:=EL h (b:=2) [.i .u8 0,.n 0] (c:=N.c (FZ b c).2) W T B B
 have xh:k.AL Y 0 2=A (N.c (FZ b c).2):=BB R;let⟨xa,S,xb,xj,G,H,Z⟩:=OI (d.X.ext e) (λa l=>⟨e.lv (d.hF a P).1,(d.hF a P).2⟩:∀a,z a->Lv k a/\s a=.C5) V (FZ b c).2
 refine⟨S,?_,⟨s,w,G,H⟩,λa l=>(Z a l).t (e.M (d.hF a P).1)⟩;rw[Lg];simp only[QY,Int.reduceEq,g.H B, *]
end
def GY(c:N)(b:C N)(a:D):C N:=(b.t a).m (λ_=>c)++b.d a
theorem n5(b:N)(a:C _):GY b a 0=a:=rfl
theorem n3(b:N)(a:C N):GY b a a.l=a.m λ_=>b:=by unfold GY;grind
theorem ZQ(c:N)(a:C N){b:D}(d:b<=a.l):(GY c a b).l=a.l:=by unfold GY;grind
theorem n4(c:N)(b:C N){a:D}(f:a<b.l):(GY c b a).set a c=GY c b (a+1):=by
 unfold GY;let⟨g,d,e⟩:=Ds f
 rw[Af3 _ _ (by grind),Ad9,Aef,show a-min a b.l=0 by omega,e,Afs,<-FL d,Aes,AeN];rfl
section
variable{v:EC} {h:G} {t:Ai} {q:C (C (C K))} {r:T->Prop} {i j:D} {n:Au} {o:C N} {y z p:T} {u:F} {m:T->Bm} {w:Bm->F}
theorem oj(d:JK v t q r i j n o h y z p u m w)(l:Ah)(U:n.op=11){a b c:N}(x:o[0]? =A a)(E:o[1]? =A b)(F:o[2]? =A c)(s:Ft t.Am)(H:B5 t.Am.l a)(G:t.Ac.l<=400)(R:(C9 t.Am a b c).2.1.l<1000000)(S:∀J∈(C9 t.Am a b c).2.1,IY t J):((Eh t ⟨2,a,b,c,0⟩).2.2=0->Kk v (Eh t ⟨2,a,b,c,0⟩).1 q 0 r h (jj W9 57 6 [.b Aa,.b l,.p p 0,.i .u8 n.op,.p v.x 0,.p z 0,.p y 0,w (.AD i j),u] h))/\((Eh t ⟨2,a,b,c,0⟩).2.2≠0->Kk v t q (Eh t ⟨2,a,b,c,0⟩).2.2 r h (jj W9 57 6 [.b Aa,.b l,.p p 0,.i .u8 n.op,.p v.x 0,.p z 0,.p y 0,w (.AD i j),u] h)):=by
 let⟨M,Q⟩:=q6 (⟨m,w,d.X,λI T=>d.hF I P⟩:Bj v h t q 0 r) d.o x E F s H G R S
 constructor
 .intro k;let⟨g,_,e,f⟩:=M k
  refine⟨g,?_,e,f⟩;rw[Lg];simp only[QY,Int.reduceEq, *]
 .intro k;let⟨g,_,e,f⟩:=Q k
  refine⟨g,?_,e,f⟩;rw[Lg];simp only[QY,Int.reduceEq, *]
theorem cL(c:JK v t q r i j n o h y z p u m w)(b:Ah)(a:n.op=8\/n.op=9):jj W9 57 6 [.b Aa,.b b,.p p 0,.i .u8 n.op,.p v.x 0,.p z 0,.p y 0,w (.AD i j),u] h=jj W9 57 5 [.b L,.p v.x 0,.p z 0,.p y 0,w (.AD i j),u] h:=by
 rw[Lg];rcases a with a|a;.simp only[↓Q,↓QT,AdM,Int.reduceEq,a]
 .simp only[↓Q,↓QT,AdM,Int.reduceEq,a]
theorem ow(M:BD v.l)(a:JK v t q r i j n o h y z p u m w)(c:Ah)(Y:n.op=8\/n.op=9){b:N}(xb:o[0]? =A b)(S:b.Ak≠5)(xg:q.l=t.Ac.l)(xh:t.Ac.l<=400){k:D}{l:Ab}(xf:CH v.l n.A8=k)(xe:v.l[k]? =A l):(t.Ac.l=400->Kk v t q 5 r h (jj W9 57 6 [.b Aa,.b c,.p p 0,.i .u8 n.op,.p v.x 0,.p z 0,.p y 0,w (.AD i j),u] h))/\(t.Ac.l≠400->Kk v ⟨t.Ac++[J6 v.l l k i j 0 b],t.Am,t.round,t.AA⟩ (q++[In v.l l.Av]) 0 r h (jj W9 57 6 [.b Aa,.b c,.p p 0,.i .u8 n.op,.p v.x 0,.p z 0,.p y 0,w (.AD i j),u] h)):=by
 let⟨d,e,J,U⟩:=a.o.JE xb
 have e:AR 2 [u,.n 0]=A (.p d (0*2)):=e;have T:Bl 0 [.p d (0*2)]=A (.p d (0*2+0)):=by rw[EG]
 have xa:h.Ap _ 0=A (Z Ab.c v.l):=Ay a.X.M 0;have R:h.Ap z 1=A (.s n.A8):=Ay a.g8 1;have s:=SA v.l n.A8 (by have:=M.A7;omega);rw[xf]at s;have F:h.Ap y 0=A (.n i):=Ay a.g4 0;have G:h.Ap y 1=A (.n j):=Ay a.g4 1;have V:Aj (Bv .Cq [.p y 0] h (.n i)) L Aa=L:=by rw[GL F];rfl
 have W:Aj (Bv .Cq [.p y 1] h (.n j)) L Aa=L:=by rw[GL G];rfl
 have X:Aj (Bv (.ld 2) [.p d (0*2)] h (.S (N.c b))) L Aa=L:=by rw[U7 (by rw[F5,J];rfl)];rfl
 let⟨xc,xd⟩:=ah M (⟨m,w,a.X,λxi xj=>a.hF xi P⟩:Bj v h t q 0 r) xg xh xe i j 0 b
 constructor
 .intro I;let⟨x,E,f,g⟩:=xc I
  refine⟨x,?_,f,g⟩;rw[cL a c Y,b1];simp only[↓Q,↓QT,AdM,↓H e,↓H T,↓H U,S,↓H xa,↓H R,↓s.H B,↓H F,↓Gn V,↓H G,↓Gn W,↓H J,↓Gn X,↓H E]
 .intro I;let⟨x,E,f,g⟩:=xd I
  refine⟨x,?_,f,g⟩;rw[cL a c Y,b1];simp only[↓Q,↓QT,AdM,↓H e,↓H T,↓H U,S,↓H xa,↓H R,↓s.H B,↓H F,↓Gn V,↓H G,↓Gn W,↓H J,↓Gn X,↓H E]
theorem ox(f:JK v t q r i j n o h y z p u m w)(E:Ah)(xp:n.op=8\/n.op=9){b:N}(T:o[0]? =A b)(xA:b.Ak=5)(g:i<t.Ac.l){a:C N}(xl:(t.at i).AG[j]? =A a)(xF:a.l<1000000):Kk v (t.AJ i {t.at i with AG:=(t.at i).AG.set j (a.m λ_=>b)}) q 0 r h (jj W9 57 6 [.b Aa,.b E,.p p 0,.i .u8 n.op,.p v.x 0,.p z 0,.p y 0,w (.AD i j),u] h):=by
 let⟨H,W,xI,xG⟩:=f.o.JE T
 have W:AR 2 [u,.n 0]=A (.p H (0*2)):=W;have xC:Bl 0 [.p H (0*2)]=A (.p H (0*2+0)):=by rw[EG]
 have xt:jj W9 57 6 [.b Aa,.b E,.p p 0,.i .u8 n.op,.p v.x 0,.p z 0,.p y 0,w (.AD i j),u] h=jj W9 57 1 [w (.AD i j),u,.n 0] h:=by rw[cL f E xp,b1];simp only[QY,vK, *]
 let⟨⟨⟩,e,J,xa⟩:=Dh (h:=a.l) (f:=λc _ h=>jj W9 57 1 [w (.AD i j),u,.n c] h) (g:=λc _ e=>c<=a.l->BZ m e v.l v.x (t.AJ i {t.at i with AG:=(t.at i).AG.set j (GY b a c)}) q 0 w/\(∀d,((r d\/d=y)\/(d=z\/d=p))\/¬As u d->Lv e d/\m d=.C5)/\Bo (λd=>((r d\/d=y)\/(d=z\/d=p))\/¬As u d) h e)
  (λc _ xh V Z=>by
   let⟨R,U,xb⟩:=Z (by omega)
   have xx:(t.AJ i {t.at i with AG:=(t.at i).AG.set j (GY b a c)}).at i={t.at i with AG:=(t.at i).AG.set j (GY b a c)}:=HE g;have xk:i<(t.AJ i {t.at i with AG:=(t.at i).AG.set j (GY b a c)}).Ac.l:=by rw[Ej];grind
   have X:((t.AJ i {t.at i with AG:=(t.at i).AG.set j (GY b a c)}).at i).AG[j]? =A (GY b a c):=by grind
   let⟨xu,xq⟩:=Bb (b:=GY b a c) (a:=c) (by rw[ZQ b a (by omega)];grind)
   have x:=Cp (R.Db (.AD i j) _ X);rw[ZQ b a (by omega)]at x;let⟨xy,xi,xm,xs,S,xj,xc⟩:=OI R U (c:=c) ⟨_,_,xu,Di xk,X,xq⟩ b
   let⟨xd,Q,xr,_⟩:=(f.o.Ar λd xH xz M Y xE=>⟨by grind,(U d (.j Y)).1⟩:Ro xh u N.c 2 o).JE T
   have Q:AR 2 [u,.n 0]=A (.p xd (0*2)):=Q;have xg:(t.AJ i {t.at i with AG:=(t.at i).AG.set j (GY b a c)}).AD i j c b=t.AJ i {t.at i with AG:=(t.at i).AG.set j (GY b a (c+1))}:=by
    have xe:({t.at i with AG:=(t.at i).AG.set j (GY b a c)}).AD j c b={t.at i with AG:=(t.at i).AG.set j (GY b a (c+1))}:=by
     have xf:CP ((t.at i).AG.set j (GY b a c)) j c b=(t.at i).AG.set j (GY b a (c+1)):=by rw[TK (Aex (AdN.1 xl).1) c b,Ae5,n4 b a V]
     exact AdW (λxn=>({t.at i with AG:=xn})) xf
    unfold Ai.AD;rw[HE g];rw[LX,xe]
   rw[xg]at S;refine⟨(),xi,?_,λ_=>⟨S,xj,λd M=>(xc d M).t (xb d M)⟩⟩;rw[i3];simp only[QY,x,(Cm V),vJ,Q,xr,xm,xs,vI,Bh (a:=c) (by omega)])
  (b:=()) (a:=h) (λ_=>⟨by
   have:t.AJ i {t.at i with AG:=(t.at i).AG.set j (GY b a 0)}=t:=by
    rw[n5];have:(t.at i).AG.set j a=(t.at i).AG:=by
     refine AeP λxv=> ?_;by_cases Y:xv=j;.grind
     .grind
    rw[this];exact LY g
   rw[this];exact f.X,f.hF,P⟩)
 let⟨G,xD,xw⟩:=xa Om
 have J:jj W9 57 1 [w (.AD i j),u,.n 0] h=jj W9 57 1 [w (.AD i j),u,.n a.l] e:=J;have xo:((t.AJ i {t.at i with AG:=(t.at i).AG.set j (GY b a a.l)}).at i).AG[j]? =A (GY b a a.l):=by rw[HE g];grind
 have x:=Cp (G.Db (.AD i j) _ xo);rw[ZQ b a Om]at x;rw[n3]at G;have xB:=CA a.l;refine⟨e,?_,⟨m,w,G,P⟩,P⟩;rw[xt,J,i3];simp only[QY, *]
end
