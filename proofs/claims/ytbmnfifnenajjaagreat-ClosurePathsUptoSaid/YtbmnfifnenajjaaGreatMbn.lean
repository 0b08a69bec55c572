/- Part of the proof. -/
import Derived.Test.YtbmnfifnenajjaaGreatMbm
set_option linter.all false
noncomputable section
open Option renaming some->A,bind->Option.b
open _root_ renaming rfl->B,List->C,Nat->D,Int->K,if_neg->Ad,if_pos->Af,Option->Ae,Bool->Ah,decide_eq_true->A0,decide_eq_false->A2,absurd->BF
open Bool renaming true->L,false->Aa
open Decidable renaming decide->Ao
open List renaming replicate->BG,length->List.l,map->List.m,take->List.t,flatMap->List.f
open Go.IntKind renaming i64->Go.IntKind.n
open Array renaming toList->Array.l
open Eq renaming trans->Eq.t,symm->Eq.s
open Or renaming inl->Or.i,inr->Or.j
open Int renaming toNat->Int.n
namespace Go.Proofs.YtbmnfifnenajjaaGreat
open Go.Fg
def XX{q:Type}{d:G}{e:F}{b c:q->C _}{f:D}{a:C _}(p:Aw d e b f a)(j:∀g∈a,b g=c g):Aw d e c f a:=by
 rcases p with k|⟨h,i,l,m,n,o⟩;.exact .i k
 .exact .j ⟨h,i,l,m,by rw[n,W4 a j],o⟩
open Classical in
def cO{i:T->Bm}{b:G}{c:T}{n:C F}(Q:b.M c=A (.I 8 n))(xb:Lv b c)(xm:i c=.Ex){H:Type}{r:F}{k:H->C F}{m s:D}{t:C H}(xd:Aw b r k m t){h:Bm}(xf:Tg i r h)(xk:h≠.Ex){j:D}(xl:j<8)(Y:∀c,(k c).l=m){p:H}{E:F}(U:BU (k p)=L)(Z:E.I=k p)(V:(t.l+1)*s<=GA):
  ∃e g l z,(∀(I:F×G->R),((Dq 1 m b.next [E]).b λa=>(DN m s (G.V b a.1) [r,a.2]).b I)=I (e,g))/\g.M c=A (.I 8 n)/\AX 1 g [.p c j,e]=A (AC,l)/\l.M c=A (.I 8 (Dg j [e] n))/\Lv l c/\Aw l e k m (t++[p])/\Tg z e h/\
   (∀a,Lv b a->i a≠h->i a≠.Ex->l.M a=b.M a/\Lv l a)/\(∀a,Lv b a->z a=i a)/\(∀a,Lv b a->i a≠h->g.M a=b.M a/\Lv g a)/\∀a,¬Lv b a->¬As e a->z a=h:=by
 let⟨e,g,xa,u,xj,xg⟩:=FJ (f:=k) (w:=m) (b:=p) (o:=E) (h:=s) Y U Z xd V
 have xh:∀d,Lv b d->i d≠h->As r d:=λd X q=>AdS λj=>q (xf d j)
 have J:∀d,Lv b d->i d≠h->g.M d=b.M d/\Lv g d:=by grind
 have xc:i c≠h:=by grind
 have M:=(J c xb xc).1.t Q
 have N:=Gx (d:=j) (a:=e) M (by omega) (by omega) (Cr u).1 (Cr u).2
 have xe:∀a,a≠c->(g.set c (.I 8 (Dg j [e] n))).M a=g.M a:=λa W=>by rw[AN,Ad W]
 have S:(g.set c (.I 8 (Dg j [e] n))).M c=A (.I 8 (Dg j [e] n)):=by rw[AN,Af B]
 refine⟨e,g,_,λa=>if Lv b a then i a else if As e a then .C5 else h,xa,M,N,S,by grind,u.Ar λd X q=>⟨xe d (λxi=>q (by grind)),by grind⟩,λa q=> ?_,P,P,J,P⟩<;>grind
def Wg(b:Bm->F)(d h g:D)(k j e m:F)(i f:D->F):Bm->F
 | .An a=>if a=d then k else b (.An a)
 | .AG a=>if a=d then j else b (.AG a)
 | .AD a c=>if a=d then(if c<h then i c else .sn)else b (.AD a c)
 | .AS a=>if a=d then e else b (.AS a)
 | .A4 a=>if a=d then m else b (.A4 a)
 | .B1 a c=>if a=d then(if c<g then f c else .sn)else b (.B1 a c)
 |l=>b l
def XD{c:Type}(a:C _)(b:c):(a++[b]).l=a.l+1:=AdY
def E8:Bm->Ah
 | .An _| .AG _| .AD _ _| .AS _| .A4 _| .B1 _ _| .BC _=>L
 |_=>Aa
open Classical in
def nE{H:EC}{V n:G}{f:Ai}{I:C (C (C K))}{xs:K}{xm:T->Prop}(yh:Bj H V f I xs xm)(xX:I.l=f.Ac.l)(yR:f.Ac.l<=400){xC:T->Bm}{xz:T}{r:AK}{J:C (C K)}{xf xe Z U:F}{xd xa:D->F}(h:L6 V f.Ac.l xC n xz r J xf xe Z U xd xa)(yl:r.next= -1):∃xv,jj W9 75 1 [.p xz 0,U,.p H.x 0] n=A (.n f.Ac.l,xv)/\Bj H xv ⟨f.Ac++[r],f.Am,f.round,f.AA⟩ (I++[J]) xs xm/\Bo xm V xv:=by
 let⟨yb,l,v,yk⟩:=yh
 have Y:∀W,(Ai.mk (f.Ac++[r]) f.Am f.round f.AA).at W=if W=f.Ac.l then r else f.at W:=λW=>FQ W;have xk:(Ai.mk (f.Ac++[r]) f.Am f.round f.AA).Ac.l=f.Ac.l+1:=P;generalize xW:Ai.mk (f.Ac++[r]) f.Am f.round f.AA=x at Y xk;let w:T->Bm:=λc=>if Lv V c then yb c else xC c
 have x9:∀c,Lv V c->w c=yb c:=P;let u:Bm->F:=Wg l f.Ac.l r.AG.l J.l xf xe Z U xd xa
 have xg:∀{yH:Type}{yj:yH->C F}{yD yq xE e},Aw n xE yj yD yq->Tg xC xE e->e≠.C5->∀c,¬As xE c->Lv n c/\w c=e:=λyS xK S c g=>⟨P,by show(if _ then _ else _)=_;rw[Ad λym=>S ((xK c g).s.t (h.BO c ym)),xK c g]⟩;have xh:∀e,e≠.C5->∀c,¬As (l e) c->Lv n c/\w c=e:=λe S c g=>by have:=v.tg _ S c g;exact⟨h.ext.lv P,by grind⟩
 have xu:(I++[J])[f.Ac.l]? =A J:=by grind
 have xQ:∀d,d≠f.Ac.l->∀E,(I++[J])[d]? =A E->I[d]? =A E:=P;have xJ:∀e,E8 e=L->(∀c,¬As (u e) c->Lv n c/\w c=e)/\L9 n u x (I++[J]) e:=λe S=>by
  cases e with
  |An d=>
   show(∀c,¬As (if d=_ then xf else l (.An d)) c->_)/\(_->Aw n (if d=_ then xf else l (.An d)) N.c 2 (x.at d).An);rw[Y,xk];by_cases j:d=f.Ac.l;.subst j;rw[Af B,Af B];exact⟨xg h.An h.Fr (by simp),λ_=>h.An⟩
   .rw[Ad j,Ad j];exact⟨P,λxc=>Aw.ext (v.Db (.An d) (by omega)) h.ext⟩
  |AS d=>
   show(∀c,¬As (if d=_ then Z else l (.AS d)) c->_)/\(_->Aw n (if d=_ then Z else l (.AS d)) Be 1 (x.at d).AS);rw[Y,xk];by_cases j:d=f.Ac.l;.subst j;rw[Af B,Af B];exact⟨xg h.AS h.Fq (by simp),λ_=>h.AS⟩
   .rw[Ad j,Ad j];exact⟨P,λxc=>Aw.ext (v.Db (.AS d) (by omega)) h.ext⟩
  |AG d=>
   show(∀c,¬As (if d=_ then xe else l (.AG d)) c->_)/\(_->Aw n (if d=_ then xe else l (.AG d)) (EE λi=>if d=_ then(if i<_ then xd i else .sn)else l (.AD d i)) 1 (List.range (x.at d).AG.l));rw[Y,xk];by_cases j:d=f.Ac.l;.subst j;simp only[eq_self,Aea];exact⟨xg h.AG.o h.AG.t (by simp),λ_=>XX h.AG.o λi R=>by show[xd i]=[if i<_ then _ else _];rw[Af (AeU.1 R)]⟩
   .simp only[Ad j];exact⟨xh _ (by simp),λxc=>Aw.ext (v.Db (.AG d) (by omega)) h.ext⟩
  |AD d i=>
   show(∀c,¬As (if d=_ then(if i<_ then xd i else .sn)else l (.AD d i)) c->_)/\∀q,(x.at d).AG[i]? =_->Aw n (if d=_ then(if i<_ then xd i else .sn)else l (.AD d i)) N.c 2 q;rw[Y];by_cases j:d=f.Ac.l
   .subst j;rw[Af B,Af B];by_cases Q:i<r.AG.l
    .rw[Af Q];let⟨q,o⟩:=Bb Q
     exact⟨xg (h.AG.r i q o).1 (h.AG.r i q o).2 (by simp),λq o=>(h.AG.r i q o).1⟩
    .rw[Ad Q];exact⟨λc g=>BF (Cg c) g,λq o=>BF (AdN.1 o).1 Q⟩
   .rw[Ad j,Ad j];exact⟨xh _ (by simp),λq o=>Aw.ext (v.Db (.AD d i) q o) h.ext⟩
  |A4 d=>
   show(∀c,¬As (if d=_ then U else l (.A4 d)) c->_)/\∀E:C (C K),_->Aw n (if d=_ then U else l (.A4 d)) (EE λi=>if d=_ then(if i<_ then xa i else .sn)else l (.B1 d i)) 1 (List.range E.l);by_cases j:d=f.Ac.l
   .subst j;simp only[eq_self,Aea];exact⟨xg h.Kx.o h.Kx.t (by simp),λE o=>by
     cases xu.s.t o
     exact XX h.Kx.o λi R=>by show[xa i]=[if i<_ then _ else _];rw[Af (AeU.1 R)]⟩
   .simp only[Ad j];exact⟨xh _ (by simp),λE o=>Aw.ext (v.Db (.A4 d) E (xQ d j E o)) h.ext⟩
  |B1 d i=>
   show(∀c,¬As (if d=_ then(if i<_ then xa i else .sn)else l (.B1 d i)) c->_)/\∀E q,_->_->Aw n (if d=_ then(if i<_ then xa i else .sn)else l (.B1 d i)) Be 1 q;by_cases j:d=f.Ac.l
   .subst j;rw[Af B];by_cases Q:i<J.l
    .rw[Af Q];let⟨q,o⟩:=Bb Q
     exact⟨xg (h.Kx.r i q o).1 (h.Kx.r i q o).2 (by simp),λE q o R=>by cases xu.s.t o;exact(h.Kx.r i q R).1⟩
    .rw[Ad Q];exact⟨λc g=>BF (Cg c) g,λE q o R=>by cases xu.s.t o;exact BF (AdN.1 R).1 Q⟩
   .rw[Ad j];exact⟨xh _ (by simp),λE q o R=>Aw.ext (v.Db (.B1 d i) E q (xQ d j E o) R) h.ext⟩
  |BC d=>exact⟨xh _ (by simp),Aeb⟩
  |_=>cases S
 have xM:∀d,DM u x d=if d=f.Ac.l then[.n r.Bc,.n r.AP,.n r.Ax,.n r.Az,xf,xe,Z]else DM l f d:=λd=>by unfold DM;rw[Y d];show[_,_,_,_,(if _ then xf else _),(if _ then xe else _),(if _ then Z else _)]=_;split<;>rfl
 have ys:Aw n (l .Ac) (DM u x) 7 (List.range f.Ac.l):=XX (Aw.ext (v.Db .Ac) h.ext) λd xc=>by rw[xM,Ad (by have:=AeU.1 xc;omega)]
 have x5:Aw n (l .Bn) (EE λd=>u (.A4 d)) 1 (List.range f.Ac.l):=by have yc:Aw V (l .Bn) (EE λd=>l (.A4 d)) 1 (List.range I.l):=v.Db .Bn;rw[xX]at yc;exact XX (yc.ext h.ext) λd xc=>by show[l (.A4 d)]=[if d=_ then U else l (.A4 d)];rw[Ad (by have:=AeU.1 xc;omega)]
 have x7:Aw n (l .Am) GO 1 f.Ac:=Aw.ext (v.Db .Am) h.ext;have xr:=xM f.Ac.l;rw[Af B]at xr;have xS:=(h.ext.M v.lv).t v.M;have x1:=h.ext.lv v.lv;have yd:w H.x=.Ex:=(x9 _ v.lv).t v.B3;have xi:∀e,e≠.C5->Tg w (l e) e:=λe S c g=>(xh e S c g).2;let⟨xo,yO,xw,ya,yn,yL,yv,xT,x2,xy,yz,xO,xl,yI,yT⟩:=cO xS x1 yd ys (h:=.Ac) (xi .Ac (by simp)) (by simp) (j:=1) (by omega) (λ_=>B) (p:=f.Ac.l) (E:=.S (DM u x f.Ac.l)) (s:=104) (by rw[xr,DJ];simp only[Aer,List.all_nil,Ru h.An,Ru h.AG.o,Ru h.AS];rfl) B (DG (by rw[Ad0];omega))
 have yt:Aw xw (l .Bn) (EE λd=>u (.A4 d)) 1 (List.range f.Ac.l):=x5.Ar λc z g=>xO c z (by rw[xi .Bn (by simp) c g];simp) (by rw[xi .Bn (by simp) c g];simp);have yA:Tg ya (l .Bn) .Bn:=λc g=>(xl c (x5.Cz g)).t (xi .Bn (by simp) c g);have ye:ya H.x=.Ex:=(xl _ x1).t yd;have xR:u (.A4 f.Ac.l)=U:=Af B;let⟨xF,yP,xb,xB,yo,yM,yw,xU,x3,x6,yB,xP,xA,yJ,yU⟩:=cO xT x2 ye yt (h:=.Bn) yA (by simp) (j:=5) (by omega) (λ_=>B) (p:=f.Ac.l) (E:=U) (s:=24) (by show BU [u (.A4 f.Ac.l)]=L;rw[xR,DJ];simp[Ru h.Kx.o]) (by show U.I=[u (.A4 f.Ac.l)];rw[xR];exact(Cr h.Kx.o).1) (DG (by rw[Ad0];omega))
 have xG:∀c,Lv n c->w c≠.Ac->w c≠.Bn->w c≠.Ex->xb.M c=n.M c/\Lv xb c/\xB c=w c:=λc z s xj j=>by have m:=xO c z s j;have p:=xP c m.2 (by rw[xl c z];exact xj) (by rw[xl c z];exact j);exact⟨p.1.t m.1,p.2,(xA c m.2).t (xl c z)⟩
 have xp:∀c,¬As (l .Am) c->xb.M c=n.M c/\Lv xb c/\xB c=.Am:=λc g=>by have e:=xi .Am (by simp) c g;have m:=xG c (x7.Cz g) (by rw[e];simp) (by rw[e];simp) (by rw[e];simp);exact⟨m.1,m.2.1,m.2.2.t e⟩
 have yf:xB H.x=.Ex:=(xA _ x2).t ye;have x4:GO r=[.b Aa]:=by unfold GO;rw[yl];rfl
 let⟨yg,yQ,t,X,yp,yN,yx,xV,yr,x8,yC,xt,xn,yK,yV⟩:=cO xU x3 yf (x7.Ar λc _ g=>⟨(xp c g).1,(xp c g).2.1⟩) (h:=.Am) (λc g=>(xp c g).2.2) (by simp) (j:=6) (by omega) (λ_=>B) (p:=r) (E:=.b Aa) (s:=1) (by rw[x4];rfl) (by rw[x4];rfl) (DG (by omega))
 have xH:∀c,Lv n c->w c≠.Ac->w c≠.Bn->w c≠.Am->w c≠.Ex->t.M c=n.M c/\Lv t c/\X c=w c:=λc z s xj j r=>by have m:=xG c z s xj r;have p:=xt c m.2.1 (by rw[m.2.2];exact j) (by rw[m.2.2];exact r);exact⟨p.1.t m.1,p.2,(xn c m.2.1).t m.2.2⟩
 have xq:∀c,¬As xo c->t.M c=xw.M c/\Lv t c/\X c=.Ac:=λc g=>by have xY:=xy.Cz g;have e:=yz c g;have p:=xP c xY (by rw[e];simp) (by rw[e];simp);have j:=(xA c xY).t e;have m:=xt c p.2 (by rw[j];simp) (by rw[j];simp);exact⟨m.1.t p.1,m.2,(xn c p.2).t j⟩
 have xx:∀c,¬As xF c->t.M c=xb.M c/\Lv t c/\X c=.Bn:=λc g=>by have xZ:=x6.Cz g;have e:=yB c g;have p:=xt c xZ (by rw[e];simp) (by rw[e];simp);exact⟨p.1,p.2,(xn c xZ).t e⟩
 let xL:Bm->F:=λe=>match e with| .Ac=>xo| .Bn=>xF| .Am=>yg| .Ex=>.sn|e=>u e
 have xD:∀e,E8 e=L->∀c,¬As (u e) c->t.M c=n.M c/\Lv t c/\X c=e:=λe s c g=>by have m:=(xJ e s).1 c g;have p:=xH c m.1 (by rw[m.2];rintro rfl;cases s) (by rw[m.2];rintro rfl;cases s) (by rw[m.2];rintro rfl;cases s) (by rw[m.2];rintro rfl;cases s);exact⟨p.1,p.2.1,p.2.2.t m.2⟩
 have yy:∀e,E8 e=L->L9 t u x (I++[J]) e:=λe s=>(xJ e s).2.Ar λc _ g=>⟨(xD e s c g).1,(xD e s c g).2.1⟩;have yi:BZ X t H.l H.x x (I++[J]) xs xL:={
  M:=by rw[<-xW];exact xV
  lv:=yr
  B3:=(xn _ x3).t yf
  tg:=λe S c g=>by
   cases e with
   |Ac=>exact(xq c g).2
   |Bn=>exact(xx c g).2
   |Am=>exact⟨x8.Cz g,yC c g⟩
   |Ex=>exact BF (Cg c) g
   |C5=>exact BF B S
   |_=>exact(xD _ B c g).2
  Db:=λe=>by
   have W:=yy e
   cases e with
   |Ac=>show Aw t xo (DM u x) 7 (List.range x.Ac.l);rw[xk,AeX];exact xy.Ar λc _ g=>⟨(xq c g).1,(xq c g).2.1⟩
   |Bn=>show Aw t xF (EE λd=>u (.A4 d)) 1 (List.range (I++[J]).l);rw[XD,xX,AeX];exact x6.Ar λc _ g=>⟨(xx c g).1,(xx c g).2.1⟩
   |Am=>show Aw t yg GO 1 x.Ac;rw[<-xW];exact x8
   |Ex=>trivial
   |C5=>trivial
   |_=>exact W B}
 have xI:∀c,xm c->t.M c=V.M c/\Lv t c/\X c=.C5:=λc z=>by
  let⟨s,xj⟩:=yk c z
  have m:=(x9 c s).t xj;have p:=xH c (h.ext.lv s) (by rw[m];simp) (by rw[m];simp) (by rw[m];simp) (by rw[m];simp);exact⟨p.1.t (h.ext.M s),p.2.1,p.2.2.t m⟩
 refine⟨t,?_,⟨X,xL,yi,λc z=>(xI c z).2⟩,λc z=>(xI c z).1⟩;have yu:n.AL xz 0 7=A (DM u x f.Ac.l):=by rw[xr];exact BB h.M
 have yF:xw.Ap H.x 5=A (l .Bn):=Ay xT 5;have yG:xb.Ap H.x 6=A (l .Am):=Ay xU 6;have yE:t.Ap H.x 1=A xo:=Ay xV 1;have x0:=Cp xy;rw[AdY,Ad0,AeE]at x0;have xN:=FA (a:=(f.Ac.l+1:D)) (b:=1) (by omega) (by omega);rw[show(f.Ac.l+1:D)-1=(f.Ac.l:K) by omega]at xN;rw[Px.2.2.1];simp only[QY,xS,yu,yn,yv,yF,yo,yw,yG,yp,yx,yE,x0,xN]
def In(a:C Ab)(c:C Au):C (C K):=c.m λb=>BG (C7 a b).n 0
def J6(c:C Ab)(a:Ab)(b f d g:K)(i:N):AK:={Dl c a b f d g with An:=(BG a.An.n AO).set 0 i}
def Ns(b:C Ab)(a:Ab)(c i g j:K)(k:N)(d:D):AK:={J6 b a c i g j k with AG:=(a.Av.t d).m λf=>BG (C7 b f).n AO}
theorem uw(c:C _)(a:Ab)(b f d g:K)(i:N):Ns c a b f d g i a.Av.l=J6 c a b f d g i:=by unfold Ns;rw[Aeq Om];rfl
section
variable{t:EC} {h:G} {e:Ai} {v:C (C (C K))} {r:K} {u:T->Prop}
theorem tN(X:BD t.l){d:G}{xN:d.Ap t.x 0=A (Z Ab.c t.l)}(xr:∃xi,d.M t.x=A (.I 8 (Z Ab.c t.l::xi))/\Lv d t.x){xc c:D}{a:Ab}(xp:t.l[c]? =A a){k j l:K}{o:N}{x f:T}(xf:d.M x=A (.I 5 (Ab.c a)))(xh:Lv d x){h:G}{P:T->Bm}{w q:F}{E y:D->F}{M W:F}(p:L6 d xc P h f (Ns t.l a c k j l o 0) [] w M q W E y):∃R U Q xe xd xa J z,jj W9 75 2 [.p x 0,.n 0,.p f 0,W,.p t.x 0] h=jj W9 75 1 [.p f 0,R,.p t.x 0] U/\L6 d xc Q U f (J6 t.l a c k j l o) (In t.l a.Av) xe xd xa R J z:=by
 have xA:=(X.Bc c a xp).Av;let⟨xi,xn,xq⟩:=xr
 let⟨R,U,Y,Q,xe,xd,xa,J,z,S⟩:=Dh (h:=a.Av.l) (f:=λb V h=>jj W9 75 2 [.p x 0,.n b,.p f 0,V,.p t.x 0] h) (g:=λb V h=>∃P w M q E y,L6 d xc P h f (Ns t.l a c k j l o b) (In t.l (a.Av.t b)) w M q V E y)
  (λb V h xg xj=>by
   let⟨P,w,M,q,E,y,p⟩:=xj
   let⟨g,xb⟩:=Bb xg
   have xw:=Cm xg;have xD:=Rs X g;have xk:=((p.ext.M xh).t xf);have xM:=(p.ext.M xq).t xn;have xI:=p.M;have xB:(Ns t.l a c k j l o b).AG.l<=b:=by show(List.map _ (a.Av.t b)).l<=b;grind
   have xC:(In t.l (a.Av.t b)).l<=b:=by unfold In;grind
   let⟨xv,xK,xs,xy,xz,xl,xE,xJ,xu,xL,xt,xo,Q,J,z,xm,xF,S⟩:=p.Ax (j:=(C7 t.l g).n) (by omega) (by omega) (by omega)
   rw[show(C7 t.l g).n=C7 t.l g by omega]at xl xm;refine⟨xt,xo,?_,Q,w,xs,q,J,z,?_⟩;.rw[Px.2.2.2.1];simp only[QY,Px.2.2.2.2.1,H (Fa xb),(gm t.l g (by have:=X.A7;omega)).H B,Px.2.2.2.2.2,H (Bh (a:=b) (by omega)), *]
   .have xG:Ns t.l a c k j l o (b+1)={Ns t.l a c k j l o b with AG:=(Ns t.l a c k j l o b).AG++[BG (C7 t.l g).n AO]}:=by
     unfold Ns
     rw[<-FL xb,Aes];rfl
    have xH:In t.l (a.Av.t (b+1))=In t.l (a.Av.t b)++[BG (C7 t.l g).n 0]:=by unfold In;rw[<-FL xb,Aes];rfl
    grind)
  (b:=W) (a:=h) ⟨P,w,M,q,E,y,p⟩
 have Y:jj W9 75 2 [.p x 0,.n 0,.p f 0,W,.p t.x 0] h=jj W9 75 2 [.p x 0,.n a.Av.l,.p f 0,R,.p t.x 0] U:=Y;rw[uw,Gz]at S;have xx:=CA a.Av.l;have xk:=(S.ext.M xh).t xf;refine⟨R,_,Q,xe,xd,xa,J,z,?_,S⟩;rw[Y,Px.2.2.2.1];simp only[QY, *]
open Classical in
theorem ah (xk:BD t.l) (xi:Bj t h e v r u) (xT:v.l=e.Ac.l) (x0:e.Ac.l<=400) {j:D} {a:Ab} (xa:t.l[j]? =A a) (p o s:K) (d:N):(e.Ac.l=400->∃E,W9 (pos 75) [.p t.x 0,.n j,.n p,.n o,.n s,.S (N.c d)] h=A (.n (-1),E)/\Bj t E e v 5 u/\Bo u h E)/\(e.Ac.l≠400->∃E,W9 (pos 75) [.p t.x 0,.n j,.n p,.n o,.n s,.S (N.c d)] h=A (.n e.Ac.l,E)/\Bj t E ⟨e.Ac++[J6 t.l a j p o s d],e.Am,e.round,e.AA⟩ (v++[In t.l a.Av]) r u/\Bo u h E):=by
 have xe:=xk.Bc j a xa;have yu:=xe.Av;have yv:=xe.An;let⟨yc,J,x5,xU,xD,yr,yA,yC⟩:=box h (.I 2 (N.c d))
 have xC:=Ko h d x5 xU;have yw:∀b,u b->Lv h b:=λb G=>xi.C4 G;have xj:=xi.V xD;have xE:=xj;let⟨yd,xK,x,xS⟩:=xj
 have xz:=x.cv;have xb:=Cp (x.Db .Ac);rw[Ad0]at xb;constructor
 .intro xO;let⟨c,yh,xL,xJ⟩:=x.RG 5
  let⟨yo,yp⟩:=xJ.Fp (by grind) xS
  refine⟨c,AZ B B ?_,⟨yd,xK,xL,P⟩,P⟩;have V:(e.Ac.l:K)=400:=by omega
  rw[Px.1];simp only[↓xC,↓Q,↓QT,↓H (Eg t.x),↓H xz,↓H xb,V,↓H yh]
 .intro xO;let⟨xx,c,x6,xV,S,X,xs,yD⟩:=box J (.I 5 (Ab.c a))
  let⟨yk,yf⟩:=EL J (b:=5) [.s [],.n 0,.sn,.sn,.sn] (c:=Ab.c a) x6 xV B B
  have xF:=xE.V S;have yj:J.Ap _ 0=A (Z Ab.c t.l):=Ay x.M 0;have x8:A9 5 J [.pi (Ab.c a)]=A (.S (Ab.c a)):=B;have xM:c.Ap xx 1=A (.n a.An):=Ay X 1;have W:=Ti c.next a.An.n (by omega);rw[show a.An.n=a.An by omega]at W;have xc:=Tu c a.An.n;have T:AH c (c.V (.I (a.An.n*2) ((BG a.An.n AO).f N.c))):=AH.V _ _;have xq:Lv (c.V (.I (a.An.n*2) ((BG a.An.n AO).f N.c))) c.next:=E9 _ _;have ya:=EX c;generalize x4:c.next=R at W xc xq ya;generalize xW:c.V (.I (a.An.n*2) ((BG a.An.n AO).f N.c))=k at xc T xq;have xN:k.Ap xx 2=A (Z Au.c a.Av):=Ay ((T.M xs).t X) 2;have xl:=bn k.next a.Av.l (by omega);have xd:=bN k a.Av.l;have xg:AH k (k.V (.I (a.Av.l*1) ((BG a.Av.l 0).f Be))):=AH.V _ _;have xr:Lv (k.V (.I (a.Av.l*1) ((BG a.Av.l 0).f Be))) k.next:=P;have yb:=EX k;generalize x3:k.next=q at xl xd xr yb;generalize xX:k.V (.I (a.Av.l*1) ((BG a.Av.l 0).f Be))=xn at xd xg xr;let⟨I,F,xo,xY,xh,xm,yB,yE⟩:=box xn (.I 7 [.n j,.n p,.n o,.n s,.Z R 0 a.An.n (a.An.n+1) 2,.sn,.Z q 0 a.Av.l (a.Av.l+1) 1])
  let⟨yN,yg⟩:=EL xn (b:=7) [.n 0,.n 0,.n 0,.n 0,.sn,.sn,.sn] (c:=[.n j,.n p,.n o,.n s,.Z R 0 a.An.n (a.An.n+1) 2,.sn,.Z q 0 a.Av.l (a.Av.l+1) 1]) xo xY B B
  have xP:Cb [.n 0,.n 0,.n 0,.n 0,.sn,.sn,.sn] [(0,1),(1,1),(2,1),(3,1),(4,1),(6,1)] [.n j,.n p,.n o,.n s,.Z R 0 a.An.n (a.An.n+1) 2,.Z q 0 a.Av.l (a.Av.l+1) 1]=A (.S [.n j,.n p,.n o,.n s,.Z R 0 a.An.n (a.An.n+1) 2,.sn,.Z q 0 a.Av.l (a.Av.l+1) 1]):=B;have xf:=xg.AI xh;have yl:=T.AI xf;have xu:=xc.ext xf;let⟨yM,xp⟩:=Bb (b:=BG a.An.n AO) (a:=0) (by rw[Afr];omega)
  let⟨g,U⟩:=CD (f:=N.c) (w:=2) (λ_=>B) xu xp
  have x2:=NU _ U.nb;subst x2;let⟨xA,xv⟩:=U.set (f:=N.c) (w:=2) (λ_=>B) xu xp (c:=d) (g:=.S (N.c d)) B B
  have x7:AR 2 [.Z g 0 a.An.n (a.An.n+1) 2,.n 0]=A (.p g (0*2)):=U.ia;have xw:∀b,b≠g->(F.set g (.I ((BG a.An.n AO).l*2) (((BG a.An.n AO).set 0 d).f N.c))).M b=F.M b:=λb G=>by rw[AN,Ad G]
  have x9:∀b,Lv (F.set g (.I ((BG a.An.n AO).l*2) (((BG a.An.n AO).set 0 d).f N.c))) b=Lv F b:=P;generalize F.set g (.I ((BG a.An.n AO).l*2) (((BG a.An.n AO).set 0 d).f N.c))=Y at xA xv xw x9;have yH:q≠g:=P;have xy:I≠g:=P;have yJ:I≠q:=P;have ye:F.AL yc 0 2=A (N.c d):=BB P;have yi:F.Ap I 4=A (.Z g 0 a.An.n (a.An.n+1) 2):=Ay xm 4;have xH:L6 c e.Ac.l (λb=>if b=g then .An e.Ac.l else if b=q then .AS e.Ac.l else if b=I then .BC e.Ac.l else .C5) Y I (Ns t.l a j p o s d 0) [] (.Z g 0 a.An.n (a.An.n+1) 2) .sn (.Z q 0 a.Av.l (a.Av.l+1) 1) .sn (λ_=>.sn) (λ_=>.sn):={
   M:=(xw I xy).t xm
   lv:=by grind
   B3:=(Ad xy).t P
   An:=xv
   Fr:=λb m=>by have:=NU _ m;grind
   AG:=⟨Aw.sn Y,λb m=>BF (Cg b) m,λyx yz xZ=>by cases xZ⟩
   AS:=(xd.ext xh).Ar λb G m=>by have:=NU _ m;grind
   Fq:=λb m=>by have:=NU _ m;grind
   Kx:=⟨Aw.sn Y,λb m=>BF (Cg b) m,P⟩
   BO:=λb G=>P
   ext:=λb G=>⟨P,by grind⟩}
  have xt:∃xB,c.M t.x=A (.I 8 (Z Ab.c t.l::xB))/\Lv c t.x:=⟨_,(S.M x.lv).t x.M,S.lv x.lv⟩;let⟨yL,yt,yK,yI,yG,yq,yF,ys,yn,xI⟩:=tN xk (xN:=by let⟨xB,xQ,_⟩:=xt;exact Ay xQ 0) xt xa X xs xH
  let⟨xR,yy,xG,ym⟩:=nE xF xT x0 xI B
  refine⟨xR,AZ B B ?_,xG.sub P,P⟩;have V:¬(e.Ac.l:K)=400:=by omega
  rw[Px.1];simp only[↓xC,↓yk,↓Q,↓QT,AdM,↓H (Eg t.x),↓H xz,↓H xb,V,Px.2.1,↓H yj,↓H (CB xa),↓H x8,↓H yf,↓H xM,x4,↓H W,xW,↓H xN,x3,↓H xl,xX,↓H xP,xo,↓H yg,↓H yi,↓H ye,↓H x7,↓H xA];grind
end
theorem Xi{c:AF->N}{b:C _}{d:AK}{a:D}{f:AF}(g:b[a]? =A f):Dc c b d (a+1)=((FG (Dc c b d a).1 a (c f)).1,(FG (Dc c b d a).1 a (c f)).2||(Dc c b d a).2):=by show(match b[a]?with|some f=>_|none=>_)=_;rw[g]
theorem Xj{f:AF->N}{b:C AF}{a:AK}(d:(GQ a 0).Ak≠0):Dc f b a 1=(a,Aa):=by
 show(match b[0]?with|some c=>_|none=>_)=_
 cases h:b[0]?with
 |none=>rfl
 |some c=>show((FG a 0 _).1,(FG a 0 _).2||false)=_;rw[Xg (.j d)];rfl
def Ks(a:AK)(b c d:F):C F:=[.n a.Bc,.n a.AP,.n a.Ax,.n a.Az,b,c,d]
theorem QU:(∀(b:AK)(d f g:F),(Ks b d f g)[0]? =A (.n b.Bc))/\(∀(b:AK)(d f g:F),(Ks b d f g)[1]? =A (.n b.AP))/\(∀(b:AK)(d f g:F),(Ks b d f g)[2]? =A (.n b.Ax))/\(∀(b:AK)(d f g:F),(Ks b d f g)[3]? =A (.n b.Az))/\(∀(b:AK)(d f g:F),(Ks b d f g)[4]? =A (d))/\(∀(b:AK)(d f g:F),(Ks b d f g)[5]? =A (f))/\(∀(b:AK)(d f g:F),(Ks b d f g)[6]? =A (g))/\(∀(c:Bm->F)(e:Ai)(a:D),(DM c e a)[0]? =A (.n (e.at a).Bc))/\(∀(c:Bm->F)(e:Ai)(a:D),(DM c e a)[1]? =A (.n (e.at a).AP))/\(∀(c:Bm->F)(e:Ai)(a:D),(DM c e a)[2]? =A (.n (e.at a).Ax))/\(∀(c:Bm->F)(e:Ai)(a:D),(DM c e a)[3]? =A (.n (e.at a).Az))/\(∀(c:Bm->F)(e:Ai)(a:D),(DM c e a)[4]? =A (c (.An a)))/\(∀(c:Bm->F)(e:Ai)(a:D),(DM c e a)[5]? =A (c (.AG a)))/\(∀(c:Bm->F)(e:Ai)(a:D),(DM c e a)[6]? =A (c (.AS a))):=⟨λ_ _ _ _=>B,λ_ _ _ _=>B,λ_ _ _ _=>B,λ_ _ _ _=>B,λ_ _ _ _=>B,λ_ _ _ _=>B,λ_ _ _ _=>B,λ_ _ _=>B,λ_ _ _=>B,λ_ _ _=>B,λ_ _ _=>B,λ_ _ _=>B,λ_ _ _=>B,λ_ _ _=>B⟩
def Lk:=And.intro QY QU
section
variable{t:EC} {h:G} {e:Ai} {z:C (C (C K))} {y:K} {w:T->Prop} {u:F}
theorem tT(xd:Bj t h e z y (λa=>w a\/¬As u a)){c:D}(r:c<e.Ac.l){b:C AF}{f:AF->N}(U:Aw h u N.c 2 (b.m f))(xg:1<=b.l)(xj:b.l<=(e.at c).An.l)(xk:b.l<1000000)(R:(GQ (e.at c) 0).Ak≠0)(p q:F):∃g,jj W9 117 17 [u,.n 1,p,.p t.x 0,.n c,q,.b Aa] h=jj W9 117 16 [p,.p t.x 0,.n c,q,.b (Dc f b (e.at c) b.l).2] g/\Bj t g (e.AJ c (Dc f b (e.at c) b.l).1) z y (λa=>w a\/¬As u a)/\Bo (λa=>w a\/¬As u a) h g:=by
 let⟨⟨⟩,g,j,G,M⟩:=Dh (h:=b.l-1) (f:=λd _ h=>jj W9 117 17 [u,.n (d+1:D),p,.p t.x 0,.n c,q,.b (Dc f b (e.at c) (d+1)).2] h) (g:=λd _ g=>Bj t g (e.AJ c (Dc f b (e.at c) (d+1)).1) z y (λa=>w a\/¬As u a)/\Bo (λa=>w a\/¬As u a) h g)
  (λd _ xh xi W=>by
   let⟨J,P⟩:=W
   let⟨Q,S⟩:=Bb (b:=b) (a:=d+1) (by omega)
   have Y:(d+1:D)<((b.m f).l:K):=by grind
   have E:=U.Ar λa x o=>⟨P a (.j o),J.C4 (.j o)⟩;have T:=Cp E;let⟨xe,xl,xm⟩:=E.rd (b:=d+1) (i:=f Q) (by grind)
   have xc:=(ME f b (e.at c) (d+1)).1;have xa:c<(e.AJ c (Dc f b (e.at c) (d+1)).1).Ac.l:=by rw[Ej];grind
   let⟨Z,xb,V,X⟩:=aj J (a:=c) (b:=d+1) xa (by rw[HE r,xc.An];omega) (f Q)
   rw[HE r,LX]at V;rw[HE r]at xb;refine⟨(),Z,?_,by rw[Xi S];grind,λa x=>(X a x).t (P a x)⟩;rw[D_.2.2.2.1,Xi S];simp only[QY,Y,D_.2.2.2.2.1,LR,D_.2.2.2.2.2.1,H (Bh (a:=d+1) (by omega)), *])
  (b:=()) (a:=h) ⟨by rw[Xj R,LY r];grind,λ_ _=>B⟩
 rw[show b.l-1+1=b.l by omega]at j G;rw[Xj R]at j;have E:=U.Ar λa x o=>⟨M a (.j o),G.C4 (.j o)⟩;have T:=Cp E;rw[Ad9]at T;have xf:=CA b.l;refine⟨g,?_,G,M⟩;have j:jj W9 117 17 [u,.n 1,p,.p t.x 0,.n c,q,.b Aa] h=_:=j;rw[j,D_.2.2.2.1];simp only[QY, *]
end
def F3(b:D->N)(d:D)(c:BA)(f:AK):D->AK×Ah×K
 |0=>(f,Aa,0)
 |a+1=>if(b a).Ak=0 then F3 b d c f a else((CZ (F3 b d c f a).1 d a (b a) c).1,(CZ (F3 b d c f a).1 d a (b a) c).2.1||(F3 b d c f a).2.1,if(CZ (F3 b d c f a).1 d a (b a) c).2.2≠0 then 6 else(F3 b d c f a).2.2)
theorem R9(b:D->N)(d:D)(c:BA)(f:AK)(a:D):F3 b d c f (a+1)=if(b a).Ak=0 then F3 b d c f a else((CZ (F3 b d c f a).1 d a (b a) c).1,(CZ (F3 b d c f a).1 d a (b a) c).2.1||(F3 b d c f a).2.1,if(CZ (F3 b d c f a).1 d a (b a) c).2.2≠0 then 6 else(F3 b d c f a).2.2):=rfl
theorem lA{a:AK}{c d:D}{f:N}{b:BA}(h:(CZ a c d f b).2.2≠0):(CZ a c d f b).2.2=6:=by unfold CZ at*;grind
theorem YO(b:D->N)(d:D)(c:BA)(f:AK):∀a,((Ce b d c f a).2.2=0->F3 b d c f a=Ce b d c f a)/\((Ce b d c f a).2.2≠0->(Ce b d c f a).2.2=6/\(F3 b d c f a).2.2=6)
 |0=>⟨λ_=>B,λh=>BF B h⟩
 |a+1=>by
  let⟨k,l⟩:=YO b d c f a
  rw[YR,R9];by_cases i:(Ce b d c f a).2.2=0
  .by_cases j:(b a).Ak=0;.grind
   .rw[Ad (by grind),Ad j,(k i)];by_cases g:(CZ (Ce b d c f a).1 d a (b a) c).2.2=0;.grind
    .rw[Af g,Af g];exact⟨P,λ_=>⟨lA g,B⟩⟩
  grind
theorem Wp(f:D->N)(d:D)(c:BA)(a:AK):∀b,DQ a (F3 f d c a b).1/\(F3 f d c a b).1.next=a.next
 |0=>⟨DQ.refl a,B⟩
 |b+1=>by
  have g:=Wp f d c a b;rw[R9];split;.grind
  .have:=YS (F3 f d c a b).1 d b (f b) c;exact⟨g.1.AI this.1,this.2.t g.2⟩
theorem DP.F3{e:Ai}{i c:D}{b:AK}{g:BA}(l:DP e i b)(k:RS e i c g){j:D->N}(q:∀a,B5 e.Am.l (j a)){f:D}(o:∀a,a<f->G6 b.AG c a)(p:∀a,a<f->G6 b.A4 c a):∀d,d<=f->DP e i (F3 j c g b d).1
 |0,_=>l
 |d+1,s=>by
  have r:=DP.F3 l k q o p d (by omega);have m:=(Wp j c g b d).1;rw[R9];split;.grind
  .rename_i n;exact r.M8 k P n (Of m.AG P) (Of m.A4 P)
section
variable{t:EC} {h:G} {e:Ai} {v:C (C (C K))} {w:K} {u:T->Prop}
theorem rn(M:BD t.l)(y:BY t.l e)(r:Bj t h e v w u){c:T}(xF:u c){U V X:F}{a:D}(N:h.M c=A (.I 7 (Ks (e.at a) U V X)))(q:a<e.Ac.l)(f:(e.at a).AP≠-1){I:D}{z:Ab}(g:Dw t.l I z (e.at a)):∃p d,jj W9 117 20 [.p c 0,.p t.x 0,.n a] h=jj W9 117 16 [.p c 0,.p t.x 0,.n a,.p d 0,.b (Cj t.l e a).2] p/\Bj t p (Cj t.l e a).1 v w (λb=>u b\/b=d)/\p.M d=A (.I 5 (Ab.c z))/\Bo u h p:=by
 let⟨b,R,xh,m,i,o,xq⟩:=y.up q f
 let⟨S,j⟩:=i.GZ
 have W:=M.Bc S xh j.hb;have x:=W.Ax R m i.hn;have xG:=x.some M;let⟨xg,k,xK,xk,xL,xM,xN⟩:=x.call i.op
 have xj:k=z:=by
  have xO:=i.CH;have:xg=I:=by have:=g.ha;omega
  subst this;exact Aew (xk.s.t g.hb)
 subst xj;have xE:=g.An;let⟨d,l,xr,xp,J,xm,xT,xU⟩:=box h (.I 5 (Ab.c k))
 let⟨xD,xA⟩:=EL h (b:=5) [.s [],.n 0,.sn,.sn,.sn] (c:=Ab.c k) xr xp B B
 have xR:∀b,u b->Lv h b:=λb f=>r.C4 f;have xa:=r;let⟨xW,xJ,xf,xQ⟩:=xa
 have xC:h.Ap t.x 0=A (Z Ab.c t.l):=Ay xf.M 0;have xw:h.Ap c 0=A (.n I):=by rw[Ay N];show A (F.n (e.at a).Bc)=_;rw[g.ha]
 have xu:A9 5 h [.pi (Ab.c k)]=A (.S (Ab.c k)):=B;have G:=(J.M P).t N;have xx:l.Ap c 1=A (.n b):=by rw[Ay G];show A (F.n (e.at a).AP)=_;rw[o.2.1]
 have xy:l.Ap c 2=A (.n R):=by rw[Ay G];show A (F.n (e.at a).Ax)=_;rw[o.2.2]
 have xz:l.Ap c 3=A (.n (e.at a).Az):=Ay G 3;have s:Bj t l e v w (λb=>u b\/b=d):=(r.V J).sub P;have xX:=y.W.sh.Az a _ (Di q);by_cases xi:(e.at a).Az=0
 .have E:Cj t.l e a=(e.AJ a (Dc (Bs (e.at b)) m.A3 (e.at a) m.A3.l).1,(Dc (Bs (e.at b)) m.A3 (e.at a) m.A3.l).2):=by
   unfold Cj
   simp only[o.2.1,o.2.2,AdR]
   rw[Ad (by omega)]
   unfold QF
   rw[j.Ca,i.hn,Aeg]
  rw[E]
  have xb:=s
  let⟨xV,xI,xe,xP⟩:=xb
  let⟨xB,xn,xs,xv,Y,xl⟩:=Xe xe xq ⟨⟨S,j.ha,j.hb⟩,i.hn⟩ (j.CQ x.A3) (by omega)
  have xc:Bj t xn e v w (λb=>(u b\/b=d)\/¬As xB b):=(s.V Y).sub λb f=>by
   rcases f with f|f;.grind
   .exact .j ⟨λxt=>f (xl b xt),P⟩
  let⟨xo,xS,xd,xH⟩:=tT xc q xv (by omega) (by omega) (by omega) (y.W.p0 a q) (.p c 0) (.p d 0)
  refine⟨xo,d,?_,xd.sub P,P,P⟩
  rw[D_.2.1]
  simp only[↓xD,↓Q,↓QT,↓H xC,↓H xw,↓H (CB g.hb),↓H xu,↓H xA,↓H xz,xi,↓H xx,↓H xy,↓H xs]
  grind
 .have E:Cj t.l e a=(e,Aa):=by
   unfold Cj
   grind
  rw[E]
  refine⟨l,d,?_,s,xm,P⟩
  rw[D_.2.1]
  simp only[QZ,H (CB g.hb), *]
abbrev bX(t:EC)(e:Ai)(a b d c:D):=F3 (Fx t.l (e.at a)) b ⟨(e.at a).Az,Aa,L⟩ (e.at d) c
theorem tW(xr:BD t.l)(E:BY t.l e)(xG:Bj t h e v 0 u)(xH:CJ e v){j:T}(R:u j){a:D}(xQ:a<e.Ac.l){b d:D}(xm:CW e a b d)(q:b<e.Ac.l)(xR:b<a){xb:D}{f:Ab}(z:Dw t.l xb f (e.at a))(Y:h.M j=A (.I 5 (Ab.c f)))(xf:RS e b d ⟨(e.at a).Az,Aa,L⟩)(xc:∀k,k<f.Bk.l->G6 (e.at b).AG d k)(xd:∀k,k<f.Bk.l->G6 (e.at b).A4 d k)(p:F)(r:Ah):
  ∃g l,jj W9 117 13 [.n 0,p,.p t.x 0,.n a,.p j 0,.b r] h=jj W9 117 12 [p,.p t.x 0,.n a,.p j 0,.b ((bX t e a d b f.Bk.l).2.1||r)] g/\
   Bj t g (e.AJ b (bX t e a d b f.Bk.l).1) l (bX t e a d b f.Bk.l).2.2 u/\CJ (e.AJ b (bX t e a d b f.Bk.l).1) l/\Bo u h g:=by
 have Q:=xr.Bc xb f z.hb
 have xP:=Q.Bk
 have xF:∀k,B5 e.Am.l (Fx t.l (e.at a) k):=λk=>by
  unfold Fx;split;.exact E.W.Bs a _
  .exact It _
 have xq:=λc m=>(DP.refl E.W q).F3 xf xF (f:=f.Bk.l) xc xd c m
 let⟨_,g,x,l,xh,xo,V⟩:=Dh (h:=f.Bk.l) (f:=λc _ h=>jj W9 117 13 [.n c,p,.p t.x 0,.n a,.p j 0,.b ((bX t e a d b c).2.1||r)] h)
  (g:=λc _ g=>∃l,Bj t g (e.AJ b (bX t e a d b c).1) l (bX t e a d b c).2.2 u/\CJ (e.AJ b (bX t e a d b c).1) l/\Bo u h g)
  (λc _ xM m xl=>by
   let⟨xA,S,xp,xt⟩:=xl
   have U:=xq c (by omega);have xu:=E.AJ U;let⟨M,y⟩:=Bb m
   have xx:Fx t.l (e.at a) c=Bs (e.at a) M:=by unfold Fx;rw[z.Ca,y]
   let⟨o,xa⟩:=z.Eo (Q.ex M (AdU y))
   have xy:Fx t.l (e.at a) c=o:=xx.t (OP xa);have xD:a<(e.AJ b (bX t e a d b c).1).Ac.l:=by rw[Ej];grind
   have W:(e.AJ b (bX t e a d b c).1).at a=e.at a:=R7 q Om;have G:(e.AJ b (bX t e a d b c).1).at b=(bX t e a d b c).1:=HE q;have xB:=(xt j R).t Y;have xK:=Cm m;have xw:=xB;have xk:=S;let⟨xT,xJ,xv,xO⟩:=xk
   obtain⟨xN,xS,xg⟩:=UC xv xD M (by rw[W];exact xa);have xi:=S.ext xg;have xe:=(Wp (Fx t.l (e.at a)) d ⟨(e.at a).Az,Aa,L⟩ (e.at b) c).1;have xn:=U.Hf.2 xm;obtain⟨xC,Z⟩:=pj xi xp xu xn P (by rw[G];exact Of xe.AG (xc c m)) (by rw[G];exact Of xe.A4 (xd c m)) o;rw[W,G,LX]at Z;by_cases X:o.Ak=0
   .let⟨N,xE,xj,xs⟩:=xC X
    have J:bX t e a d b (c+1)=bX t e a d b c:=by unfold bX;rw[R9,Af (by grind)]
    refine⟨(),N,?_,xA,by grind,by grind,P⟩;rw[D_.2.2.2.2.2.2.2.1,J];simp only[QY,D_.2.2.2.2.2.2.2.2.1,H (IE y),D_.2.2.2.2.2.2.2.2.2.1,H (Bh (a:=c) (by omega)), *]
   .let⟨N,xz,xE,xj,xI,xs⟩:=Z X
    have J:bX t e a d b (c+1)=((CZ (bX t e a d b c).1 d c o ⟨(e.at a).Az,Aa,L⟩).1,(CZ (bX t e a d b c).1 d c o ⟨(e.at a).Az,Aa,L⟩).2.1||(bX t e a d b c).2.1,if(CZ (bX t e a d b c).1 d c o ⟨(e.at a).Az,Aa,L⟩).2.2≠0 then 6 else(bX t e a d b c).2.2):=by unfold bX;rw[R9,Ad (by grind),xy]
    refine⟨(),N,?_,xz,by grind,by grind,P⟩;rw[D_.2.2.2.2.2.2.2.1,J];simp only[QY,D_.2.2.2.2.2.2.2.2.1,H (IE y),LR,AfF,D_.2.2.2.2.2.2.2.2.2.1,H (Bh (a:=c) (by omega)), *])
  (b:=()) (a:=h) ⟨v,by show Bj t h (e.AJ b (e.at b)) v 0 u;rw[LY q];grind,by show CJ (e.AJ b (e.at b)) v;rw[LY q];grind,P⟩
 have x:jj W9 117 13 [.n 0,p,.p t.x 0,.n a,.p j 0,.b (Aa||r)] h=jj W9 117 13 [.n f.Bk.l,p,.p t.x 0,.n a,.p j 0,.b ((bX t e a d b f.Bk.l).2.1||r)] g:=x
 rw[Ae6]at x
 have xL:=CA f.Bk.l
 have xw:=(V j R).t Y
 refine⟨g,l,?_,xh,xo,V⟩
 rw[x,D_.2.2.2.2.2.2.2.1]
 simp only[QY, *]
end
abbrev bF(f:N)(e:Ai)(a b d c:D):=F3 (λ_=>f) b ⟨(e.at a).Az,L,L⟩ (e.at d) c
section
variable{t:EC} {h:G} {e:Ai} {v:C (C (C K))} {r:K} {u:T->Prop}
theorem tU(xm:BD t.l)(U:BY t.l e)(xw:Bj t h e v 0 u)(xx:CJ e v){k m:T}(M:u k)(xd:u m){b:D}(xE:b<e.Ac.l){a d:D}(xi:CW e b a d)(z:a<e.Ac.l)(xF:a<b){X:D}{g:Ab}(xc:Dw t.l X g (e.at b))(W:h.M k=A (.I 5 (Ab.c g))){c:N}(xq:h.M m=A (.I 2 (N.c c)))(xt:c.Ak≠0)(xu:B5 e.Am.l c)(xb:RS e a d ⟨(e.at b).Az,L,L⟩)(Y:∀x,x<g.Bk.l->G6 (e.at a).AG d x)(Z:∀x,x<g.Bk.l->G6 (e.at a).A4 d x)(w:F)(E:Ah):
  ∃j o,jj W9 117 8 [.n 0,.p m 0,w,.p t.x 0,.n b,.p k 0,.b E] h=jj W9 117 7 [.p m 0,w,.p t.x 0,.n b,.p k 0,.b ((bF c e b d a g.Bk.l).2.1||E)] j/\
   Bj t j (e.AJ a (bF c e b d a g.Bk.l).1) o (bF c e b d a g.Bk.l).2.2 u/\CJ (e.AJ a (bF c e b d a g.Bk.l).1) o/\Bo u h j:=by
 have xD:=(xm.Bc X g xc.hb).Bk
 let⟨_,j,J,o,xe,xj,R⟩:=Dh (h:=g.Bk.l) (f:=λf _ h=>jj W9 117 8 [.n f,.p m 0,w,.p t.x 0,.n b,.p k 0,.b ((bF c e b d a f).2.1||E)] h)
  (g:=λf _ j=>∃o,Bj t j (e.AJ a (bF c e b d a f).1) o (bF c e b d a f).2.2 u/\CJ (e.AJ a (bF c e b d a f).1) o/\Bo u h j)
  (λf _ xC y xh=>by
   let⟨xB,xg,xl,S⟩:=xh
   have Q:=(λf y=>(DP.refl U.W z).F3 xb (j:=λ_=>c) (λ_=>xu) (f:=g.Bk.l) Y Z f y) f (by omega);have xs:a<(e.AJ a (bF c e b d a f).1).Ac.l:=by rw[Ej];grind
   have V:(e.AJ a (bF c e b d a f).1).at b=e.at b:=R7 z Om;have G:(e.AJ a (bF c e b d a f).1).at a=(bF c e b d a f).1:=HE z;have xz:=Cm y;have xn:=(S k M).t W;have xG:=(S m xd).t xq;have xa:=(Wp (λ_=>c) d ⟨(e.at b).Az,L,L⟩ (e.at a) f).1;obtain⟨xr,xp,xv,xf,xk,xy⟩:=pk xg xl (U.AJ Q) (Q.Hf.2 xi) xs (by rw[G];exact Of xa.AG (Y f y)) (by rw[G];exact Of xa.A4 (Z f y)) c;rw[V,G]at xv;rw[V,G,LX]at xf xk;have xo:bF c e b d a (f+1)=((CZ (bF c e b d a f).1 d f c ⟨(e.at b).Az,L,L⟩).1,(CZ (bF c e b d a f).1 d f c ⟨(e.at b).Az,L,L⟩).2.1||(bF c e b d a f).2.1,if(CZ (bF c e b d a f).1 d f c ⟨(e.at b).Az,L,L⟩).2.2≠0 then 6 else(bF c e b d a f).2.2):=by unfold bF;rw[R9,Ad xt]
   refine⟨(),xr,?_,xp,by grind,by grind,P⟩;rw[D_.2.2.2.2.2.2.2.2.2.2.2.2.1,xo];simp only[QY,D_.2.2.2.2.2.2.2.2.2.2.2.2.2.1,LR,AfF,D_.2.2.2.2.2.2.2.2.2.2.2.2.2.2.1,H (Bh (a:=f) (by omega)), *])
  (b:=()) (a:=h) ⟨v,by show Bj t h (e.AJ a (e.at a)) v 0 u;rw[LY z];grind,by show CJ (e.AJ a (e.at a)) v;rw[LY z];grind,P⟩
 have J:jj W9 117 8 [.n 0,.p m 0,w,.p t.x 0,.n b,.p k 0,.b (Aa||E)] h=jj W9 117 8 [.n g.Bk.l,.p m 0,w,.p t.x 0,.n b,.p k 0,.b ((bF c e b d a g.Bk.l).2.1||E)] j:=J
 rw[Ae6]at J
 have xA:=CA g.Bk.l
 have xn:=(R k M).t W
 refine⟨j,o,?_,xe,xj,R⟩
 rw[J,D_.2.2.2.2.2.2.2.2.2.2.2.2.1]
 simp only[QY, *]
theorem tV(xa:BD t.l)(xj:Bj t h e v r u){g:T}(G:u g){c a:D}(xr:c<e.Ac.l)(k:a<e.Ac.l)(xg:c≠a){V:D}{b:Ab}(E:Dw t.l V b (e.at c))(R:h.M g=A (.I 5 (Ab.c b)))(xn:1<=b.A_.l)(xt:b.A_.l<=(e.at a).An.l)(S:(GQ (e.at a) 0).Ak≠0)(o:Ah):∃f,jj W9 117 2 [.n a,.p t.x 0,.n c,.p g 0,.n 1,.b o] h=A (.b ((Dc (Bs (e.at c)) b.A_ (e.at a) b.A_.l).2||o),f)/\Bj t f (e.AJ a (Dc (Bs (e.at c)) b.A_ (e.at a) b.A_.l).1) v r u/\Bo u h f:=by
 have z:=xa.Bc V b E.hb;have xu:=z.A_;let⟨⟨⟩,f,j,J,N⟩:=Dh (h:=b.A_.l-1) (f:=λd _ h=>jj W9 117 2 [.n a,.p t.x 0,.n c,.p g 0,.n (d+1:D),.b ((Dc (Bs (e.at c)) b.A_ (e.at a) (d+1)).2||o)] h) (g:=λd _ f=>Bj t f (e.AJ a (Dc (Bs (e.at c)) b.A_ (e.at a) (d+1)).1) v r u/\Bo u h f)
  (λd _ xo xs Z=>by
   let⟨M,xb⟩:=Z
   let⟨w,y⟩:=Bb (b:=b.A_) (a:=d+1) (by omega)
   have xl:(d+1:D)<(b.A_.l:K):=by omega
   let⟨W,U⟩:=E.Eo (z.nx w P)
   have Q:Bs (e.at c) w=W:=OP U;have xf:c<(e.AJ a (Dc (Bs (e.at c)) b.A_ (e.at a) (d+1)).1).Ac.l:=by rw[Ej];grind
   have xh:a<(e.AJ a (Dc (Bs (e.at c)) b.A_ (e.at a) (d+1)).1).Ac.l:=by rw[Ej];grind
   have xd:=(xb g G).t R;let⟨p,q,xc,xq⟩:=M
   obtain⟨xp,xv,X⟩:=UC xc xf w (by rw[(R7 k xg:(e.AJ a (Dc (Bs (e.at c)) b.A_ (e.at a) (d+1)).1).at c=e.at c)];exact U);let⟨xe,xi,Y,xk⟩:=aj (M.ext X) (a:=a) (b:=d+1) xh (by rw[HE k,(ME (Bs (e.at c)) b.A_ (e.at a) (d+1)).1.An];omega) W
   rw[HE k,LX]at Y;rw[HE k]at xi;refine⟨(),xe,?_,by rw[Xi y,Q];omega,P⟩;rw[D_.2.2.2.2.2.2.2.2.2.2.2.2.2.2.2.2.2.2.1,Xi y,Q];simp only[QY,D_.2.2.2.2.2.2.2.2.2.2.2.2.2.2.2.2.2.2.2.1,H (IE y),LR,AfF,D_.2.2.2.2.2.2.2.2.2.2.2.2.2.2.2.2.2.2.2.2,H (Bh (a:=d+1) (by omega)), *])
  (b:=()) (a:=h) ⟨by rw[Xj S,LY k];grind,P⟩
 rw[show b.A_.l-1+1=b.A_.l by omega]at j J;rw[Xj S,Ae6]at j;have j:jj W9 117 2 [.n a,.p t.x 0,.n c,.p g 0,.n 1,.b o] h=_:=j;have xm:=CA b.A_.l;have xd:=(N g G).t R;refine⟨f,?_,J,N⟩;rw[j,D_.2.2.2.2.2.2.2.2.2.2.2.2.2.2.2.2.2.2.1];simp only[QY,D_.2.2.2.2.2.2.2.2.2.2.2.2.2.2.2.2.2.1, *]
end
section
variable{p:T->Bm} {h:G} {l:C Ab} {x:T} {e:Ai} {v:C (C (C K))} {r:K} {q:Bm->F}
theorem BZ.Vl(g:BZ p h l x e v r q){a:D}(d:a<e.Ac.l):∃b,AR 1 [q .Am,.n a]=A (.p b (a*1))/\AM h [.p b (a*1)]=A (.b (!Ao ((e.at a).next= -1))):=by
 let⟨b,c⟩:=CD (f:=GO) (w:=1) (λ_=>B) (g.Db .Am) (Di d)
 exact⟨b,c.ia,by exact(c.Ap (f:=GO) (w:=1) (λ_=>B) (Di d) (b:=0) (by omega))⟩
theorem BZ.w9(g:BZ p h l x e v r q){a:D}(k:a<e.Ac.l){b:K}(E:b≠-1):∃d j,AR 1 [q .Am,.n a]=A (.p d (a*1))/\AX 1 h [.p d (a*1),.b L]=A (AC,j)/\BZ p j l x (e.AJ a {e.at a with next:=b}) v r q/\EM p h j .Am:=by
 have o:=g.Db .Am;have n:GO {e.at a with next:=b}=[.b L]:=by unfold GO;rw[A2 (show¬(({e.at a with next:=b}:AK).next= -1)from E)];rfl
 let⟨d,i⟩:=CD (f:=GO) (w:=1) (λ_=>B) o (Di k)
 let⟨s,G⟩:=i.set (f:=GO) (w:=1) (λ_=>B) o (Di k) (c:={e.at a with next:=b}) (g:=.b L) (by rw[n];rfl) (by rw[n];rfl)
 have m:=Vt (h:=h) (c:=.I (e.Ac.l*1) ((e.Ac.set a {e.at a with next:=b}).f GO)) (g.tg .Am (by grind) d i.nb).2;refine⟨d,_,i.ia,s,g.Ep m P (by grind) B B B G λI H F=>Ym (b:={e.at a with next:=b}) k ⟨B,B,B,B,B,B,B,B⟩ F P P P P,m⟩
end
theorem CJ.Km{i:C Ab}{e:Ai}{u:C (C (C K))}(a:CJ e u)(b:Ab)(m p o q:K)(r:N):CJ ⟨e.Ac++[J6 i b m p o q r],e.Am,e.round,e.AA⟩ (u++[In i b.Av]):=by
 have z:(Ai.mk (e.Ac++[J6 i b m p o q r]) e.Am e.round e.AA).Ac.l=e.Ac.l+1:=by grind
 have M:∀d g,Ek (J6 i b m p o q r) d g=EQ:=λd g=>T9 _ _ _ _ _;have J:(In i b.Av).m List.length=(J6 i b m p o q r).A4.m List.length:=by show(b.Av.m λE=>BG _ 0).m _=(b.Av.m λE=>BG _ _).m _;rw[AeF,AeF];congr 1;grind
 have Q:∀(d g:D) k l,(In i _)[d]? =A k->k[g]? =A l->l=0:=λd g k l c x=>by
  unfold In at c
  rw[Aeo]at c
  cases H:b.Av[d]?with
  |none=>rw[H]at c;grind
  |some E=>grind
 refine⟨by rw[XD,z,a.A7],λj v n=> ?_,λj d g v k l c x G=> ?_⟩
 .rw[FQ];by_cases f:j=e.Ac.l;.rw[Af f];rw[f,<-a.A7,Ae9 Om,Afc]at n;grind
  .have s:=(AdN.1 n).1;rw[XD,a.A7]at s;rw[AeQ (by rw[a.A7];omega)]at n;rw[Ad f];exact a.Ga j v n
 .rw[FQ];by_cases f:j=e.Ac.l;.rw[Af f];rw[f,<-a.A7,Ae9 Om,Afc]at c;have:=Aew c;subst this;exact .i ⟨P,P⟩
  .have s:=(AdN.1 c).1;rw[XD,a.A7]at s;rw[AeQ (by rw[a.A7];omega)]at c;rw[Ad f];refine(a.B0 j d g v k l c x G).Hf λI F=> ?_;unfold CW at F⊢;rw[FQ,Ad (by omega),z];grind
theorem CJ.RH{e:Ai}{u:C (C (C K))}(b:CJ e u){a:D}(c:a<e.Ac.l)(d:K):CJ (e.AJ a {e.at a with next:=d}) u:=b.AJ c ⟨B,B,B,B,B,B,B,B⟩ B
theorem Xh(d:AF->N)(c:C AF)(b:AK):∀a,(Dc d c b a).1.A4=b.A4
 |0=>rfl
 |a+1=>by
  have g:=Xh d c b a
  show(match c[a]?with|some f=>((FG _ a _).1,(FG _ a _).2||(Dc _ _ b a).2)|none=>Dc _ c b a).1.A4=_
  cases c[a]?with
  |none=>grind
  |some f=>show(FG (Dc d c b a).1 a (d f)).1.A4=_;unfold FG;grind
section
variable{t:EC} {h:G} {e:Ai} {u:C (C (C K))} {y:K} {w:T->Prop}
theorem kb(M:BD t.l)(f:BY t.l e)(o:Bj t h e u 0 w){G H:T}(xl:w G)(W:w H){S U V:F}{c:D}(r:h.M G=A (.I 7 (Ks (e.at c) S U V)))(j:c<e.Ac.l)(xf:(e.at c).AP≠-1){x:D}{i:Ab}(g:Dw t.l x i (e.at c))(xa:h.M H=A (.I 5 (Ab.c i)))(xy:i.A_.l≠0)(N:(e.at c).next≠-1)(q:Ah):∃s,jj W9 117 6 [.p G 0,.p t.x 0,.n c,.p H 0,.b q] h=A (.b ((Gv t.l e c).2||q),s)/\Bj t s (Gv t.l e c).1 u 0 w/\Bo w h s:=by
 let⟨l,d,k⟩:=f.next j N
 let⟨z,v,xp,xC,xn,m,xz⟩:=f.up j xf
 let⟨xh,Z,n⟩:=f.W.sh.BC l _ (Di k)
 have xe:=f.W.sh.A7;have xG:=f.W.sh.Az c _ (Di j);have I:=M.Bc x i g.hb;have xc:Z=i:=by
  have:xh=x:=by have:=g.ha;have:=n.ha;have:=d.Bc;omega
  subst this;exact Aew (n.hb.s.t g.hb)
 subst xc;have X:=o;let⟨xF,xo,p,xu⟩:=X
 let⟨xq,xg,R⟩:=p.Vl j
 have xH:=p.M;have xj:=p.M;rw[A2 N]at R;have xD:=r;have xE:=r;have xi:=r;have xs:=F2 (a:=(e.at c).Az) (b:=1) (by omega) (by omega);have xr:DE [.b L]=A (.b Aa):=B;let⟨xt,xA,J⟩:=pl o xe (e.at c).AP (e.at c).Ax ((e.at c).Az+1) k ⟨d.AP,d.Ax,d.Az,by have:=d.lt;omega⟩ (λQ xw E=>by have:=f.W.KN l Q z v (⟨k,d.AP.t m.2.1,d.Ax.t m.2.2⟩:CW e l z v) (⟨by omega,E.1.t m.2.1,E.2.1.t m.2.2⟩:CW e Q z v) (by rw[E.2.2.1,d.Az]);omega)
 have xd:c≠l:=by have:=d.lt;omega
 have xk:=n.An;have xx:=I.A_;have xv:=I.An;let⟨xb,xB,Y,xm⟩:=tV M (o.ext J) W j k xd g ((J.M P).t xa) (by omega) (by omega) (f.W.p0 l k) q
 unfold Gv;simp only[d.next,AdR,g.Ca];refine⟨xb,?_,Y,P⟩;rw[D_.2.2.2.2.2.2.2.2.2.2.2.2.2.2.2.1];simp only[Lk,xj,xg,R,QB,D_.2.2.2.2.2.2.2.2.2.2.2.2.2.2.2.2.1,xi];grind
abbrev OB(d:C Ab)(b:Ab)(c:D)(e:Ai)(a:D)(f:N):Ai:=⟨e.Ac++[J6 d b c (e.at a).AP (e.at a).Ax ((e.at a).Az+1) f],e.Am,e.round,e.AA⟩
abbrev nC(e:Ai)(a:D):AK:={e.at a with next:=(e.Ac.l:K)}
theorem AaK(I:BD t.l)(r:BY t.l e)(xu:Bj t h e u 0 w)(xa:CJ e u){m x:T}(yQ:w m)(yR:w x){xH xI xJ:F}{c:D}(yr:h.M m=A (.I 7 (Ks (e.at c) xH xI xJ)))(p:c<e.Ac.l)(xf:(e.at c).AP≠-1){k:D}{d:Ab}(q:Dw t.l k d (e.at c))(xQ:h.M x=A (.I 5 (Ab.c d)))(xX:d.A_.l≠0)(s:Ah):((ER t.l e c).2.2=0->∃W xp,jj W9 117 11 [.p m 0,.p t.x 0,.n c,.p x 0,.b s] h=A (.b ((ER t.l e c).2.1||s),W)/\Bj t W (ER t.l e c).1 xp 0 w/\CJ (ER t.l e c).1 xp/\Bo w h W)/\((ER t.l e c).2.2≠0->∃W yj xp yg,jj W9 117 11 [.p m 0,.p t.x 0,.n c,.p x 0,.b s] h=A (.b yg,W)/\Bj t W yj xp (ER t.l e c).2.2 w/\Bo w h W):=by
 let⟨g,xh,yU,y4,xl,xk,xY⟩:=r.up p xf
 have yZ:=r.W.sh.A7;have zd:=r.W.sh.Az c _ (Di p);have x4:=I.Bc k d q.hb;let⟨xd,xV⟩:=Bb (b:=d.A_) (a:=0) (by omega)
 let⟨f,xZ⟩:=q.Eo (x4.nx xd P)
 have xo:Et t.l (e.at c)=f:=by unfold Et;rw[q.Ca,xV,Aeg];exact OP xZ
 have yO:B5 e.Am.l f:=by rw[<-xo];exact r.W.Bs c _
 have yY:∀g,w g->Lv h g:=λg xf=>xu.C4 xf;have yV:h.Ap x 3=A (Z AF.c d.A_):=Ay xQ 3;have y0:AR 2 [Z AF.c d.A_,.n 0]=A (.pi (AF.c xd)):=IE (a:=0) xV;have y9:A9 2 h [.pi (AF.c xd)]=A (.S (AF.c xd)):=B;have x8:=xu;let⟨za,yS,yd,yW⟩:=x8
 let⟨xU,y1,x6⟩:=UC yd p xd xZ
 let⟨G,R,yy,yv,x7,xB,y2,y5⟩:=box xU (.I 2 (N.c f))
 let⟨ze,zc⟩:=EL xU (b:=2) [.i .u8 0,.n 0] (c:=N.c f) yy yv B B
 have xt:=x6.AI x7;have Y:Bj t R e u 0 (λg=>w g\/g=G):=(xu.V xt).sub P;have xP:=(xt.M P).t yr;have xR:=(xt.M P).t xQ;have x2:R.Ap G 0=A (.i .u8 f.Ak):=Ay xB 0;have yl:DE [.b Aa]=A (.b L):=B;have x3:f.Ak=5->jj W9 117 11 [.p m 0,.p t.x 0,.n c,.p x 0,.b s] h=jj W9 117 8 [.n 0,.p G 0,.p m 0,.p t.x 0,.n c,.p x 0,.b s] R:=λyi=>by rw[D_.2.2.2.2.2.2.2.2.2.2.1];simp only[Lk, *]
 have xs:f.Ak≠5->jj W9 117 11 [.p m 0,.p t.x 0,.n c,.p x 0,.b s] h=jj W9 117 7 [.p G 0,.p m 0,.p t.x 0,.n c,.p x 0,.b s] R:=λyi=>by rw[D_.2.2.2.2.2.2.2.2.2.2.1];simp only[Lk, *]
 by_cases xc:f.Ak=0
 .have E:(e.at c).next= -1:=AdS λxE=>(r.W.L4 c p xE).1 (by grind)
  unfold ER;simp only[];rw[xo,Af xc];refine⟨λ_=> ?_,P⟩;let⟨xj,J,j,xq⟩:=Y
  let⟨xm,xg,H⟩:=j.Vl p
  rw[A0 E]at H;have xG:R.Ap t.x 7=A (.n 0):=Ay j.M 7;have xF:R.Ap t.x 6=A (J .Am):=Ay j.M 6;refine⟨R,u,?_,⟨xj,J,j,P⟩,xa,P⟩;rw[xs (by omega),D_.2.2.2.2.2.2.2.2.2.2.2.1];simp only[Lk,D_.2.2.2.2.2.2.2.2.2.2.2.2.2.2.2.1,Ad8,Ae6, *]
 by_cases M:f.Ak=5
 .have E:(e.at c).next= -1:=AdS λxE=>(r.W.L4 c p xE).2 (by grind)
  let⟨yF,yE,yK,yL,y6,y7⟩:=xl.Ga I q
  have V:ER t.l e c=(e.AJ g (Ce (λ_=>f) xh ⟨(e.at c).Az,L,L⟩ (e.at g) d.Bk.l).1,(Ce (λ_=>f) xh ⟨(e.at c).Az,L,L⟩ (e.at g) d.Bk.l).2):=by unfold ER;simp only[];rw[xo,Ad xc,Af M];unfold JI;simp only[xk.2.1,xk.2.2,AdR,Aeg, *]
  let⟨o,xO,xr,z,xb,yb⟩:=tU I r Y xa P (.j B) p xk xY xl.lt q xR xB xc yO (xl.M8 I r xk L) (λyP yz=>⟨yF,yK,by omega⟩) (λyP yz=>⟨yE,yL,by omega⟩) (.p m 0) s
  unfold bF at xr z xb;have y8:o.Ap G 0=A (.i .u8 f.Ak):=Ay ((yb G (.j B)).t xB) 0;have yB:c≠g:=by have:=xl.lt;omega
  have xM:Bo w h o:=by grind
  let⟨xz,xA⟩:=YO (λ_=>f) xh ⟨(e.at c).Az,L,L⟩ (e.at g) d.Bk.l
  rw[V];have ya:=z;let⟨xj,J,j,xq⟩:=ya
  constructor
  .intro xn;have xz:=xz xn;rw[xz]at xr z xb j;rw[xn]at z j;have yx:c<(e.AJ g (Ce (λ_=>f) xh ⟨(e.at c).Az,L,L⟩ (e.at g) d.Bk.l).1).Ac.l:=by rw[Ej];grind
   let⟨xm,xg,H⟩:=j.Vl yx
   rw[R7 xY yB,A0 E]at H;have xG:o.Ap t.x 7=A (.n 0):=Ay j.M 7;have xF:o.Ap t.x 6=A (J .Am):=Ay j.M 6;refine⟨o,xO,?_,z.sub P,xb,xM⟩;rw[x3 M,xr,D_.2.2.2.2.2.2.2.2.2.2.2.1];simp only[Lk,Int.reduceEq,QB,D_.2.2.2.2.2.2.2.2.2.2.2.2.2.2.2.1,Ad8, *]
  .intro xn;let⟨yk,xA⟩:=xA xn
   rw[xA]at z j;have xG:o.Ap t.x 7=A (.n 6):=Ay j.M 7;refine⟨o,_,xO,(F3 (λ_=>f) xh ⟨(e.at c).Az,L,L⟩ (e.at g) d.Bk.l).2.1||s,?_,by rw[yk];exact z.sub P,xM⟩;rw[x3 M,xr,D_.2.2.2.2.2.2.2.2.2.2.2.1];simp only[Lk,Int.reduceEq,QB,D_.2.2.2.2.2.2.2.2.2.2.2.2.2.2.2.1, *]
 .by_cases E:(e.at c).next= -1
  ·
   have x9:=Y;let⟨xj,J,j,xq⟩:=x9
   let⟨xm,xg,H⟩:=j.Vl p
   rw[A0 E]at H;have xF:R.Ap t.x 6=A (J .Am):=Ay j.M 6;let⟨yh,o,yA,yN,ye,xb⟩:=j.w9 p (b:=e.Ac.l) (by omega)
   have yu:xm=yh:=by grind
   subst yu;let⟨yp,yq⟩:=xb.Fp (by grind) xq
   have z:Bj t o (e.AJ c (nC e c)) u 0 (λg=>w g\/g=G):=⟨xj,J,ye,yp⟩;have xe:=(yq m P).t xP;have yG:o.Ap m 0=A (.n k):=by rw[Ay xe];show A (F.n (e.at c).Bc)=_;rw[q.ha]
   have yH:o.Ap m 1=A (.n (e.at c).AP):=Ay xe 1;have yI:o.Ap m 2=A (.n (e.at c).Ax):=Ay xe 2;have yJ:o.Ap m 3=A (.n (e.at c).Az):=Ay xe 3;have yn:=F2 (a:=(e.at c).Az) (b:=1) (by omega) (by omega);have yM:o.AL G 0 2=A (N.c f):=BB P;have x1:(e.AJ c (nC e c)).Ac.l=e.Ac.l:=Ej ..;let⟨xS,xT⟩:=ah I z (by rw[x1];exact xa.A7) (by grind) q.hb (e.at c).AP (e.at c).Ax ((e.at c).Az+1) f
   rw[x1]at xS xT;have xi:Gu t.l e c=if e.Ac.l=400 then(e,Aa,5)else(Ai.AJ (OB t.l d k e c f) c (nC e c),L,0):=by
    unfold Gu nC;simp only[];rw[Af E];unfold EO;by_cases U:e.Ac.l=400;.grind
    .rw[Ad U,Ad U,q.ha,AdR,q.hb,xo];rfl
   by_cases U:e.Ac.l=400
   .rw[Af U]at xi;have V:ER t.l e c=(e,Aa,5):=by unfold ER;grind
    rw[V];refine⟨P,λ_=> ?_⟩;let⟨X,x0,S,xL⟩:=xS U
    let⟨zb,yT,yf,yX⟩:=S
    have xG:X.Ap t.x 7=A (.n 5):=Ay yf.M 7;refine⟨X,_,u,L,?_,S.sub P,P⟩;rw[xs M,D_.2.2.2.2.2.2.2.2.2.2.2.1];simp only[Q,QT,Int.reduceEq,QB,Ad8,D_.2.2.2.2.2.2.2.2.2.2.2.2.2.2.2.1,ZR, *]
   .rw[Ad U]at xi;let⟨X,x0,S,xL⟩:=xT U
    have xy:=bs I r p xf (by grind) (by grind);rw[xi]at xy;have yo:⟨(e.AJ c (nC e c)).Ac++[J6 t.l d k (e.at c).AP (e.at c).Ax ((e.at c).Az+1) f],e.Am,e.round,e.AA⟩=Ai.AJ (OB t.l d k e c f) c (nC e c):=by unfold Ai.AJ;grind
    have S:Bj t X ⟨(e.AJ c (nC e c)).Ac++[J6 t.l d k (e.at c).AP (e.at c).Ax ((e.at c).Az+1) f],e.Am,e.round,e.AA⟩ (u++[In t.l d.Av]) 0 (λg=>w g\/g=G):=S;have xK:CJ ⟨(e.AJ c (nC e c)).Ac++[J6 t.l d k (e.at c).AP (e.at c).Ax ((e.at c).Az+1) f],e.Am,e.round,e.AA⟩ (u++[In t.l d.Av]):=(xa.RH p _).Km d k _ _ _ f;rw[yo]at S xK;have y3:(OB t.l d k e c f).Ac.l=e.Ac.l+1:=by grind
    have yw:c<(OB t.l d k e c f).Ac.l:=by grind
    have V:ER t.l e c=((Gv t.l (Gu t.l e c).1 c).1,(Gv t.l (Gu t.l e c).1 c).2||true,0):=by unfold ER;grind
    rw[V,xi];refine⟨λ_=> ?_,P⟩;have xN:(Ai.AJ (OB t.l d k e c f) c (nC e c)).at c=(nC e c):=HE yw;have xW:c<(Ai.AJ (OB t.l d k e c f) c (nC e c)).Ac.l:=by grind
    have ys:X.M m=A (.I 7 (Ks ((Ai.AJ (OB t.l d k e c f) c (nC e c)).at c) xH xI xJ)):=by rw[xN];exact(xL m P).t xe
    have yt:X.M x=A (.I 5 (Ab.c d)):=by grind
    have x5:Dw t.l k d ((Ai.AJ (OB t.l d k e c f) c (nC e c)).at c):=by rw[xN];exact q.En ⟨B,B,B,B,B,B,B,B⟩
    let⟨xC,yD,xv,yc⟩:=kb I xy S P P ys xW (by grind) x5 yt xX (by grind) L
    have xx:CJ (Gv t.l (Ai.AJ (OB t.l d k e c f) c (nC e c)) c).1 (u++[In t.l d.Av]):=by
     let⟨yC,xw,xD⟩:=xy.next xW (by grind)
     unfold Gv;simp only[xw.next,AdR];refine xK.AJ xD (ME _ _ _ _).1 ?_;exact Xh _ _ _ _
    refine⟨xC,_,?_,xv.sub P,xx,P⟩;rw[xs M,D_.2.2.2.2.2.2.2.2.2.2.2.1];simp only[Lk,Int.reduceEq,x2,xc,M,QB,xF,xg,H,Ad8,yl,yA,yN,yG,yH,yI,yJ,yn,yM,x0];grind
  ·
   have V:ER t.l e c=((Gv t.l e c).1,(Gv t.l e c).2||false,0):=by
    have xi:Gu t.l e c=(e,Aa,0):=by unfold Gu;grind
    unfold ER;grind
   rw[V];refine⟨λ_=> ?_,P⟩;let⟨xj,J,j,xq⟩:=Y
   let⟨xm,xg,H⟩:=j.Vl p
   rw[A2 E]at H;have ym:DE [.b L]=A (.b Aa):=B;let⟨xC,yD,xv,yc⟩:=kb I r Y P P xP p xf q xR xX E s
   have xx:CJ (Gv t.l e c).1 u:=by
    let⟨yC,xw,xD⟩:=r.next p E
    unfold Gv;simp only[xw.next,AdR];refine xa.AJ xD (ME _ _ _ _).1 ?_;exact Xh _ _ _ _
   refine⟨xC,u,?_,xv.sub P,xx,P⟩;rw[xs M,D_.2.2.2.2.2.2.2.2.2.2.2.1];simp only[Lk,Int.reduceEq,x2,xc,M,QB,j.M,xg,H,Aet,ym];omega
end
theorem es{f g:AK}(a:DQ f g)(b c d:F):Ks g b c d=Ks f b c d:=by unfold Ks;rw[a.Bc,a.AP,a.Ax,a.Az]
section
variable{t:EC} {h:G} {e:Ai} {v:C (C (C K))} {u:T->Prop}
theorem qX(m:BD t.l)(E:BY t.l e)(J:Bj t h e v 0 u)(xd:CJ e v){a:D}(g:a<e.Ac.l):((El t.l e a).2.2=0->∃j G,W9 (pos 117) [.p t.x 0,.n a] h=A (.b (El t.l e a).2.1,j)/\Bj t j (El t.l e a).1 G 0 u/\CJ (El t.l e a).1 G/\Bo u h j)/\((El t.l e a).2.2≠0->∃j xA G xf,W9 (pos 117) [.p t.x 0,.n a] h=A (.b xf,j)/\Bj t j xA G (El t.l e a).2.2 u/\Bo u h j):=by
 have yd:∀b,u b->Lv h b:=λb o=>J.C4 o;let⟨yo,i,N,yb⟩:=J
 let⟨x3,xK,xS⟩:=N.Sh g
 have xT:=N.cv;let⟨d,W,xI,xF,xo,V,yh,yk⟩:=box h (.I 7 (DM i e a))
 let⟨x0,xU⟩:=EL h (b:=7) [.n 0,.n 0,.n 0,.n 0,.sn,.sn,.sn] (c:=DM i e a) xI xF B (Si N g)
 have xm:W.Ap d 1=A (.n (e.at a).AP):=Ay V 1;have xb:Bj t W e v 0 (λb=>u b\/b=d):=(J.V xo).sub P;by_cases o:(e.at a).AP= -1
 .have w:El t.l e a=(e,Aa,0):=by
   unfold El
   grind
  rw[w]
  refine⟨λ_=>⟨W,v,AZ B B ?_,xb.sub P,xd,P⟩,P⟩
  have x6:(-1)<0:=by omega
  rw[o]at xm
  rw[D_.1]
  simp only[Lk,H (Eg t.x), *]
 .let⟨yl,yf,x4,yj,x1,xq,ye⟩:=E.up g o
  let⟨yg,c,I⟩:=E.W.sh.BC a _ (Di g)
  have xz:¬(e.at a).AP<0:=by rw[xq.2.1];omega
  let⟨ya,q,xL,xp,xE,xt⟩:=rn m E xb P (U:=i (.An a)) (V:=i (.AG a)) (X:=i (.AS a)) V g o I
  have xk:=(T7 (c:=t.l) (Di g)).1;have F:=YM E g;have Z:=(xk.R6 g).1;have x:a<(Cj t.l e a).1.Ac.l:=by rw[xk.A7];grind
  have xj:((Cj t.l e a).1.at a).AP≠-1:=by rw[Z.AP];grind
  have xr:CJ (Cj t.l e a).1 v:=by
   unfold Cj;simp only[];split;.grind
   .exact xd.AJ g (ME _ _ _ _).1 (Xh _ _ _ _)
  have y:=I.En Z;let⟨b,p,xf,yi,r,z,xH⟩:=F.up x xj
  let⟨xP,xO,xQ,xR,ym,yn⟩:=r.Ga m y
  let⟨f,T,xM,k,xe,xu⟩:=tW m F xp xr (.j B) x z xH r.lt y xE (r.M8 m F z Aa) (λxY xJ=>⟨xP,xQ,by omega⟩) (λxY xJ=>⟨xO,xR,by omega⟩) (.p d 0) (Cj t.l e a).2
  unfold bX at xM k xe;have x8:EU t.l (Cj t.l e a).1 a=((Cj t.l e a).1.AJ b (Ce (Fx t.l ((Cj t.l e a).1.at a)) p ⟨((Cj t.l e a).1.at a).Az,Aa,L⟩ ((Cj t.l e a).1.at b) c.Bk.l).1,(Ce (Fx t.l ((Cj t.l e a).1.at a)) p ⟨((Cj t.l e a).1.at a).Az,Aa,L⟩ ((Cj t.l e a).1.at b) c.Bk.l).2):=by unfold EU;simp only[z.2.1,z.2.2,AdR,y.Ca]
  have xl:=(Uw (b:=t.l) (Di x) r.AP r.Cc).1;have xa:=(xl.R6 x).1;let⟨xw,R⟩:=YO (Fx t.l ((Cj t.l e a).1.at a)) p ⟨((Cj t.l e a).1.at a).Az,Aa,L⟩ ((Cj t.l e a).1.at b) c.Bk.l
  have xn:xx W9 117 [.p t.x 0,.n a] h=jj W9 117 12 [.p d 0,.p t.x 0,.n a,.p q 0,.b ((F3 (Fx t.l ((Cj t.l e a).1.at a)) p ⟨((Cj t.l e a).1.at a).Az,Aa,L⟩ ((Cj t.l e a).1.at b) c.Bk.l).2.1||(Cj t.l e a).2)] f:=by rw[D_.1];simp only[↓x0,↓Q,↓QT,AdM,↓H (Eg t.x),↓H xT,↓H xK,↓H xS,↓H xU,↓H xm,xz];rw[xL,D_.2.2.1];grind
  have xi:f.M q=A (.I 5 (Ab.c c)):=by grind
  let⟨yp,x2,s,yc⟩:=k
  have x5:F4 t.l (e.at a)=c:=I.Ca;by_cases S:(Ce (Fx t.l ((Cj t.l e a).1.at a)) p ⟨((Cj t.l e a).1.at a).Az,Aa,L⟩ ((Cj t.l e a).1.at b) c.Bk.l).2.2=0
  .rw[(xw S)]at k xe s xn;rw[S]at k s;have xc:Bj t f (EU t.l (Cj t.l e a).1 a).1 T 0 (λb=>(u b\/b=d)\/b=q):=by grind
   have xV:xx W9 117 [.p t.x 0,.n a] h=jj W9 117 12 [.p d 0,.p t.x 0,.n a,.p q 0,.b ((EU t.l (Cj t.l e a).1 a).2.1||(Cj t.l e a).2)] f:=by grind
   have xZ:=s.M;by_cases xg:c.A_.l=0
   .have w:El t.l e a=((EU t.l (Cj t.l e a).1 a).1,(Cj t.l e a).2||(EU t.l (Cj t.l e a).1 a).2.1,0):=by
     unfold El
     grind
    rw[w]
    refine⟨λ_=>⟨f,T,AZ B B ?_,xc.sub P,P,P⟩,P⟩
    have xh:(c.A_.l:K)=0:=by omega
    rw[xV,D_.2.2.2.2.2.2.1]
    simp only[Lk,xi,DF AF.c c.A_,xh,QB]
    grind
   .have w:El t.l e a=((ER t.l (EU t.l (Cj t.l e a).1 a).1 a).1,((Cj t.l e a).2||(EU t.l (Cj t.l e a).1 a).2.1)||(ER t.l (EU t.l (Cj t.l e a).1 a).1 a).2.1,(ER t.l (EU t.l (Cj t.l e a).1 a).1 a).2.2):=by
     unfold El
     grind
    rw[w]
    have xG:a<(EU t.l (Cj t.l e a).1 a).1.Ac.l:=by rw[xl.A7];grind
    have xD:f.M d=A (.I 7 (Ks ((EU t.l (Cj t.l e a).1 a).1.at a) (i (.An a)) (i (.AG a)) (i (.AS a)))):=by rw[es xa,es Z];exact(xu d P).t ((xt d P).t V)
    let⟨xW,xX⟩:=AaK m (ZP m F x xj) xc P P P xD xG (by rw[xa.AP];grind) (y.En xa) xi xg ((EU t.l (Cj t.l e a).1 a).2.1||(Cj t.l e a).2)
    have xh:¬(c.A_.l:K)=0:=by omega
    have x9:jj W9 117 12 [.p d 0,.p t.x 0,.n (a:K),.p q 0,.b ((EU t.l (Cj t.l e a).1 a).2.1||(Cj t.l e a).2)] f=jj W9 117 11 [.p d 0,.p t.x 0,.n (a:K),.p q 0,.b ((EU t.l (Cj t.l e a).1 a).2.1||(Cj t.l e a).2)] f:=by rw[D_.2.2.2.2.2.2.1];simp only[Lk,H (DF AF.c c.A_),QB, *]
    constructor
    .intro Y;let⟨X,U,xN,M,xs,xv⟩:=xW Y
     refine⟨X,U,AZ B B ?_,M.sub P,xs,P⟩;grind
    .intro Y;let⟨X,xB,U,xy,xN,M,xv⟩:=xX Y
     refine⟨X,xB,U,xy,AZ B B ?_,M.sub P,P⟩;grind
  .let⟨x7,R⟩:=R S
   rw[R]at k s;have xC:(EU t.l (Cj t.l e a).1 a).2.2=6:=by grind
   unfold El;simp only[];rw[Ad o,Af (by grind),xC];refine⟨Om,λ_=>⟨f,_,T,(F3 (Fx t.l ((Cj t.l e a).1.at a)) p ⟨((Cj t.l e a).1.at a).Az,Aa,L⟩ ((Cj t.l e a).1.at b) c.Bk.l).2.1||(Cj t.l e a).2,AZ B B ?_,k.sub P,P⟩⟩;have xZ:=s.M;rw[xn,D_.2.2.2.2.2.2.1];by_cases xg:(c.A_.l:K)=0;.simp only[Lk,H (DF AF.c c.A_),QB, *]
   .simp only[Lk,Int.reduceEq,H (DF AF.c c.A_),QB, *]
end
theorem Y3{d f:Type}(b:Ae _)(a:d->Ae f):((b.b λc=>A c).b a)=b.b a:=by grind
section
variable{t:EC} {h:G} {e:Ai} {v:C (C (C K))} {w:K} {u:T->Prop}
theorem Bj.Hw(d:Bj t h e v w u):∃c,h.Ap t.x 1=A c/\DX [c]=A (.n e.Ac.l)/\h.Ap t.x 7=A (.n w):=by
 let⟨i,f,a,g⟩:=d
 have b:=Cp (a.Db .Ac);rw[Ad0]at b;exact⟨f .Ac,a.cv,b,Ay a.M 7⟩
theorem eJ(c:Bj t h e v w u){a:D}(g:e.Ac.l<=a\/w≠0)(b:Ah):jj W9 58 9 [.n a,.b b,.p t.x 0] h=jj W9 58 8 [.b b,.p t.x 0] h:=by
 let⟨k,_,i,j⟩:=c.Hw
 rw[GI.2.2.2.2.1];by_cases d:a<(e.Ac.l:K)
 .have f:¬w=0:=by grind
  simp only[QY,H _,QB, *]
 .simp only[QY,H _,QB, *]
theorem iO(o:BD t.l){c:D}(V:c=400){b:Ai}(y:BY t.l b):∀(f a:D){h:G}{v:C (C (C K))},a+f=c->(B9 t.l b a).2.2=0->Bj t h (B9 t.l b a).1 v 0 u->CJ (B9 t.l b a).1 v->((B9 t.l b c).2.2=0->∃d l,jj W9 58 9 [.n a,.b (B9 t.l b a).2.1,.p t.x 0] h=jj W9 58 8 [.b (B9 t.l b c).2.1,.p t.x 0] d/\Bj t d (B9 t.l b c).1 l 0 u/\CJ (B9 t.l b c).1 l/\Bo u h d)/\((B9 t.l b c).2.2≠0->∃d R l Q,jj W9 58 9 [.n a,.b (B9 t.l b a).2.1,.p t.x 0] h=jj W9 58 8 [.b Q,.p t.x 0] d/\Bj t d R l (B9 t.l b c).2.2 u/\Bo u h d)
 |f,a,h,v,xb,T,j,s=>by
  have z:=Tv o y a;have xc:=z.W.sh.A7;by_cases F:a<(B9 t.l b a).1.Ac.l
  .cases f with
   |zero=>omega
   |succ f=>
    let⟨X,Y⟩:=qX o z j s F
    have M:B9 t.l b (a+1)=((El t.l (B9 t.l b a).1 a).1,(B9 t.l b a).2.1||(El t.l (B9 t.l b a).1 a).2.1,(El t.l (B9 t.l b a).1 a).2.2):=by
     rw[Rx,Ad]
     rintro(g|g)
     .grind
     .grind
    let⟨xj,xe,xd,xf⟩:=j.Hw
    have I:a<((B9 t.l b a).1.Ac.l:K):=by omega
    by_cases p:(El t.l (B9 t.l b a).1 a).2.2=0
    .let⟨m,q,W,n,Z,x⟩:=X p
     have U:(B9 t.l b (a+1)).2.2=0:=by grind
     have N:Bj t m (B9 t.l b (a+1)).1 q 0 u:=by grind
     have P:CJ (B9 t.l b (a+1)).1 q:=by grind
     have xg:jj W9 58 9 [.n (a:K),.b (B9 t.l b a).2.1,.p t.x 0] h=jj W9 58 9 [.n ((a+1:D):K),.b (B9 t.l b (a+1)).2.1,.p t.x 0] m:=by rw[GI.2.2.2.2.1,M];simp only[QY,H (Eg t.x),I,QB,GI.2.2.2.2.2.1,LR,GI.2.2.2.2.2.2.1,H (Bh (a:=a) (by omega)), *];rw[Bool.or_comm]
     let⟨xh,xi⟩:=iO o V y f (a+1) (by omega) U N P
     constructor;.grind
     .grind
    .have J:(B9 t.l b (a+1)).2.2≠0:=by grind
     have r:=Vy (.i J) c (by omega);rw[r];refine⟨λg=>BF g J,λ_=> ?_⟩;let⟨m,xa,q,E,W,n,x⟩:=Y p
     have S:=eJ n (a:=a+1) (.j p) (E||(B9 t.l b a).2.1);refine⟨m,_,_,E||(B9 t.l b a).2.1,?_,by rw[M];exact n,x⟩;rw[<-S,GI.2.2.2.2.1];simp only[QY,H _,I,QB,GI.2.2.2.2.2.1,LR,GI.2.2.2.2.2.2.1,H (Bh (a:=a) (by omega)), *]
  .have r:=Vy (.j F) c (by omega);rw[r];refine⟨λ_=>⟨h,v,eJ j (.i (by omega)) _,j,s,λ_ _=>B⟩,λg=>BF T g⟩
theorem eI(b:Bj t h e v w u)(a:Ah)(d:a=Aa\/w≠0):jj W9 58 8 [.b a,.p t.x 0] h=jj W9 58 7 [.p t.x 0] h:=by
 let⟨i,_,f,g⟩:=b.Hw
 rw[GI.2.2.1]
 cases a with
 |false=>simp only[↓Q,↓QT,AdM,QB]
 |true=>
  have c:¬w=0:=by grind
  simp only[QY,QB, *]
theorem gA(r:BD t.l){g:D}(N:g=400):∀{P:D}{e:Ai}{d:Ai×K}{h:G}{v:C (C (C K))},IF t.l g P e=A d->BY t.l e->Bj t h e v 0 u->CJ e v->(d.2=0->∃f n,jj W9 58 8 [.b L,.p t.x 0] h=jj W9 58 7 [.p t.x 0] f/\Bj t f d.1 n 0 u/\CJ d.1 n/\Bo u h f)/\(d.2≠0->∃f S n,jj W9 58 8 [.b L,.p t.x 0] h=jj W9 58 7 [.p t.x 0] f/\Bj t f S n d.2 u/\Bo u h f)
 |0,e,d,h,v,a,x,p,I=>by cases a
 |P+1,e,d,h,v,a,x,p,I=>by
  let⟨xd,xb,xa,xc⟩:=p.Hw
  have o:jj W9 58 8 [.b L,.p t.x 0] h=jj W9 58 9 [.n 0,.b Aa,.p t.x 0] h:=by rw[GI.2.2.1];simp only[QY,QB,GI.2.2.2.1, *]
  let⟨W,X⟩:=iO (u:=u) r N x g 0 (by omega) B p I
  unfold IF at a;by_cases j:(B9 t.l e g).2.2=0
  .rw[Ad (λc=>c j)]at a;let⟨E,M,b,i,J,k⟩:=W j
   have b:=b;by_cases y:(B9 t.l e g).2.1=L
   .rw[Af y]at a;rw[y]at b;let⟨Y,Z⟩:=gA r N a (Tv r x g) i J
    constructor
    .intro c;let⟨F,z,H,q,Q,s⟩:=Y c
     exact⟨F,z,(o.t b).t H,q,Q,λm l=>(s m l).t (k m l)⟩
    .intro c;let⟨F,U,z,H,q,s⟩:=Z c
     exact⟨F,U,z,(o.t b).t H,q,λm l=>(s m l).t (k m l)⟩
   .rw[Ad y]at a;cases a
    have V:=eI i (B9 t.l e g).2.1 (.i (by grind));exact⟨λ_=>⟨E,_,(o.t b).t V,i,J,k⟩,λc=>BF B c⟩
  .rw[Af j]at a;cases a
   refine⟨λc=>BF c j,λ_=> ?_⟩;let⟨E,T,M,R,b,i,k⟩:=X j
   have b:=b;exact⟨E,T,M,(o.t b).t (eI i R (.j j)),i,k⟩
end
