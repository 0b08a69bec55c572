/- Part of the proof. -/
import Derived.Test.YtmnfpdedgnfeiaaGreatMbj
set_option linter.all false
noncomputable section
open Option renaming some->A,none->O,getD->Option.g,bind->Option.b
open _root_ renaming rfl->B,List->C,Nat->D,Int->K,if_neg->Ad,if_pos->Af,Bool->Ak,cond->An,absurd->A_,decide_eq_false->Ba,decide_eq_true->Be
open Bool renaming true->L,false->Ac
open Decidable renaming decide->Au
open List renaming replicate->Bv,length->List.l,map->List.m,take->List.t,drop->List.d,toArray->List.a,flatMap->List.f
open Nat renaming le_refl->C6
open Go.IntKind renaming i64->Go.IntKind.n
open Array renaming toList->Array.l,size->Array.z
open Eq renaming trans->Eq.t,symm->Eq.s
open Or renaming inl->Or.i,inr->Or.j
open Int renaming toNat->Int.n
namespace Go.Proofs.YtmnfpdedgnfeiaaGreat
open Go.Fg Go.Sort
def YB(a:AP)(b:D):M:=(((a.AB[b]?).g [])[0]?).g AK
def Ri(c:C Ab)(a:AP)(b:D):Ak:=match(Ch c a).Ay[b]?with
 |some d=>Au (d.op=12)&&(Au (0<(a.AI[b]?).g 0)&&Au ((YB a b).Ai=0))
 |none=>Ac
def M_(f:C Ab)(b:Ah)(a:AP)(c e:D):C Cc:=((List.range e).filter (Ri f a)).m λ(d:D)=>⟨G6 b c,(d:K)⟩
def Kt(c:C Ab)(a:Ah):D->C Cc
 |0=>[]
 |b+1=>Kt c a b++(match a.T[b]?with|some d=>M_ c a d b (Ch c d).Ay.l|none=>[])
def L7(b:C Ab)(a:Ah):C Cc:=Xf (Kt b a a.T.l)
def AcR(e:C _)(c:Ah)(b:AP)(d a:D):M_ e c b d (a+1)=M_ e c b d a++(if Ri e b a=L then[⟨G6 c d,a⟩]else[]):=by unfold M_;rw[Ajw,List.filter_append,AiZ];grind
def lt(e:C Ab)(c:Ah)(b:AP)(d a:D):(M_ e c b d a).l<=a:=by unfold M_;grind
def ZS{c:C Ab}(e:Bj c){b:Ah}(f:Dk c b):∀a,(Kt c b a).l<=a*400
 |0=>C6 _
 |a+1=>by
  unfold Kt
  rw[Aio,AjO]
  refine Nat.add_le_add (ZS e f a) ?_
  cases j:b.T[a]?with
  |none=>grind
  |some g=>
   let⟨h,i,d⟩:=f.Bw a g j
   simp only[];rw[d.BB];exact AiN (lt c b g a _) (e.A4 h i d.hb).Ay
structure WI(d:G)(e:F)(c:G)(b:C WE):Prop where
 CC:AF c e FV 2 b
 ro:∀a∈b,Ro c a.1 Bc.c 2 a.2.ES
 AX:∀a∈b,a.2.ES.l<1000000000
 I6:∀a∈b,∀f,¬AE a.1 f->AE e f
 E:AR d c
 fu:EV d e
 fx:∀a∈b,EV d a.1
def WI.ext{f d e:G}{g:F}{b:C _}(a:WI f g d b)(c:AR d e):WI f g e b:=
 ⟨a.CC.ext c,λi h=>(a.ro i h).Av P,a.AX,a.I6,a.E.AQ c,a.fu,a.fx⟩
def Ro.Dh{k:Type}{b:G}{d:F}{g:k->C _}{j:D}{h:C _}(i:Ro b d g j h){a:Aa}(c:¬AE d a):Lv b a:=by
 rcases i with⟨rfl,_⟩|⟨e,l,rfl,_,m⟩;.exact A_ (CM a) c
 .by_cases f:e=a;.grind
  .exact A_ (Fe f) c
def WI.add{r q:G}{o c:F}{m:C _}{e:C Bc}{g:K}{l:G}(h:WI r o q m)(t:AF l c Bc.c 2 e)(J:AR q l)(I:EV q c)(X:e.l<1000000)(W:m.l<1000000):∃p n,BE [.sn,(.n 0)] [(0,1),(1,1)] [c,.n g]=A (.S (FV (c,⟨e,g⟩)))/\(∀(v:F×G->R),((CB 1 2 l.next [.S (FV (c,⟨e,g⟩))]).b λb=>(Eo 2 32 (G.V l b.1) [o,b.2]).b v)=v (p,n))/\WI r p n (m++[(c,⟨e,g⟩)]):=by
 have k:=h.ext J;have S:Ct (FV (c,⟨e,g⟩))=L:=by unfold FV;rw[EC];simp[(CS t).2]
 let⟨p,n,T,U,Q,z⟩:=GS (f:=FV) (w:=2) (b:=((c,⟨e,g⟩))) (o:=.S (FV (c,⟨e,g⟩))) (h:=32) (λ_=>B) S B k.CC (EI (by omega))
 have V:∀b,¬AE c b->AE o b:=λb s=>Aih λM=>s (I b (h.CC.Dh M));have H:∀a∈m++[((c,⟨e,g⟩))],Ro l a.1 Bc.c 2 a.2.ES/\(∀b,¬AE a.1 b->AE o b)/\a.2.ES.l<1000000000/\EV r a.1:=λa d=>by
  rcases AiM.1 d with d|d;.exact⟨k.ro a d,h.I6 a d,h.AX a d,h.fx a d⟩
  .have:a=(c,⟨e,g⟩):=by grind
   subst this;exact⟨t.ro,V,by grind,λj i=>I j (h.E.lv i)⟩
 refine⟨p,n,?_,T,U,λa d=> ?_,P,λa d b s=> ?_,λj i=> ?_,λj i=> ?_,P⟩;.rcases t with⟨rfl,_⟩|⟨_,_,rfl,_⟩<;>rfl
 .let⟨u,N,_⟩:=H a d
  exact u.Av P
 .let⟨u,N,_⟩:=H a d
  exact z b (u.Dh s) P
 .have:=Q j (k.E.lv i) (h.fu j i);exact⟨this.1.t (k.E.N i),P⟩
 .exact z j (k.E.lv i) (h.fu j i)
def vk{c:CW}(xC:Bj c.l){xW:Aa->Bz}{W:G}{g:Ah}{r:Ly}(xD:EU xW W c.l c.es c.k c.x g r)(xm:Dk c.l g){a:D}{e:AP}(xu:g.T[a]? =A e){xw:D}{d:Ab}(E:DU c.l xw d e)(y z:F){p:C WE}{Y:F}{j:G}(xz:WI W Y j p)(x4:p.l<500000):∃S R P,jj W9 64 4 [.n d.Ay.l,Z AD.c d.Ay,.p (r.pc a) 0,.n a,.n 0,.n a,y,z,.p c.x 0,Y] j=jj W9 64 3 [.n a,y,z,.p c.x 0,R] P/\WI W R P S/\S.m (·.2)=p.m (·.2)++M_ c.l g e a d.Ay.l:=by
 have xk:=xC.A4 xw d E.hb;have x5:=xk.Ay;have x8:=xm.AX;have x6:a<g.T.l:=by grind
 obtain⟨⟨S,R⟩,P,xc,xA,xS⟩:=Ez (h:=d.Ay.l) (f:=λb x j=>jj W9 64 4 [.n d.Ay.l,Z AD.c d.Ay,.p (r.pc a) 0,.n a,.n b,.n a,y,z,.p c.x 0,x.2] j)
  (g:=λb x j=>WI W x.2 j x.1/\x.1.m (·.2)=p.m (·.2)++M_ c.l g e a b)
  (λb x j xv T=>by
   obtain⟨u,xi⟩:=x;obtain⟨T,xl⟩:=T;simp only[]at T xl⊢;obtain⟨q,v⟩:=Bo xv;have x0:=xk.Ao b q v;have xH:=Dx xv;obtain⟨xV,t,xQ,xO,xx,xL,yd,yf⟩:=box j (.I 4 (AD.c q));obtain⟨xZ,xX⟩:=F0 j (b:=4) [(.i .u8 0),(.s []),(.n 0),.sn] (c:=AD.c q) xQ xO B B;have xR:Bf 4 j [.pi (AD.c q)]=A (.S (AD.c q)):=B;have xE:t.AA xV 0=A (.i .u8 q.op):=AJ xL 0;have N:=T.ext xx;have xn:=xD.ext N.E;have J:=xn.Bw a e xu;have X:=AcR c.l g e a b;have m:Ri c.l e b=(Au (q.op=12)&&(Au (0<(e.AI[b]?).g 0)&&Au ((YB e b).Ai=0))):=by unfold Ri;rw[E.BB,v]
   have ye:u.l<=p.l+b:=by
    have t:(u.m (·.2)).l=u.l:=by grind
    have xM:(p.m (·.2)).l=p.l:=by grind
    have xt:=lt c.l g e a b;have xN:=Aij List.length xl;rw[Aio]at xN;omega
   by_cases xb:q.op=12
   .rw[Be xb,Ai5]at m;obtain⟨xs,xd⟩:=Bo (b:=e.AI) (a:=b) (by rw[E.AI];grind);rw[xd,Aiz]at m;have yh:=AJ J.N 6;obtain⟨xG,U⟩:=Dm (f:=Bq) (w:=1) (λ_=>B) J.AI xd;have yk:t.AA xG (b*1)=A (.n xs):=by have:=U.AA (f:=Bq) (λ_=>B) xd (b:=0) (by grind);exact this
    by_cases xq:0<xs
    .rw[Be xq,Ai5]at m;have xe:b<e.AB.l:=by rw[E.AB];grind
     obtain⟨xh,xf⟩:=Bo xe;have x7:=E.Aw b q xh v xf;have x9:C_ c.l q=1:=by unfold C_;omega
     obtain⟨xa,xg⟩:=Bo (b:=xh) (a:=0) (by omega);have xJ:YB e b=xa:=by unfold YB;rw[xf,Aiz,xg];rfl
     rw[xJ]at m;have yg:=AJ J.N 5;obtain⟨xF,xj⟩:=Dm (f:=EX (r.og a)) (w:=1) (λ_=>B) J.AB (Ga xe);have yi:t.AA xF (b*1)=A (r.og a b):=by have:=xj.AA (f:=EX (r.og a)) (λ_=>B) (Ga xe) (b:=0) (by grind);exact this
     obtain⟨xp,xo⟩:=Dm (f:=M.c) (w:=2) (λ_=>B) (J.Aw b xh xf).1 xg;have ya:AZ 2 [r.og a b,.n 0]=A (.p xp 0):=by have:=xo.ia;simpa using this
     have yj:t.AU xp 0 2=A (M.c xa):=by have:=xo.AU (f:=M.c) (λ_=>B) xg;simpa using this
     have V:=Nq xa;have x2:DW [.b L]=A (.b Ac):=B;have x1:DW [.b Ac]=A (.b L):=B;by_cases xr:xa.Ai=0
     .rw[Be xr]at V m;rw[Af m]at X;obtain⟨xU,xM,yb,xT,xy,xK⟩:=cr xn xm xu;have xP:(G6 g a).l<1000000:=by unfold G6;rw[List.length_reverse];have:=YX g (a+1) a;omega
      obtain⟨xY,xt,x3,yc,xB⟩:=N.add (g:=b) xT xy xK xP (by omega);refine⟨(u++[(xU,⟨G6 g a,b⟩)],xY),xt,?_,xB,?_⟩;.show jj W9 64 4 _ _=jj W9 64 4 _ _;rw[Jb.2.2.2.2.2.1];simp only[QY,Jb.2.2.2.2.2.2.1,H (Gq v),H U.ia,H xj.ia,V.H B,QB,Jb.2.2.2.2.2.2.2,H (BF (a:=b) (by omega)), *]
      .grind
     .rw[Ba xr]at V m;rw[m,Ad (by grind),Aiy]at X;refine⟨(u,xi),t,?_,N,by grind⟩;show jj W9 64 4 _ _=jj W9 64 4 _ _;rw[Jb.2.2.2.2.2.1];simp only[QY,Jb.2.2.2.2.2.2.1,H (Gq v),H U.ia,H xj.ia,V.H B,QB,Jb.2.2.2.2.2.2.2,H (BF (a:=b) (by omega)), *]
    .rw[Ba xq,AjA]at m;rw[m,Ad (by grind),Aiy]at X;refine⟨(u,xi),t,?_,N,by grind⟩;show jj W9 64 4 _ _=jj W9 64 4 _ _;rw[Jb.2.2.2.2.2.1];simp only[QY,Jb.2.2.2.2.2.2.1,H (Gq v),H U.ia,QB,Jb.2.2.2.2.2.2.2,H (BF (a:=b) (by omega)), *]
   .rw[Ba xb,AjA]at m;rw[m,Ad (by grind),Aiy]at X;refine⟨(u,xi),t,?_,N,by grind⟩;show jj W9 64 4 _ _=jj W9 64 4 _ _;rw[Jb.2.2.2.2.2.1];simp only[↓xZ,↓Q,↓QT,Aic,xH,Jb.2.2.2.2.2.2.1,↓H (Gq v),↓H xR,↓H xX,↓H xE,xb,QB,Jb.2.2.2.2.2.2.2,↓H (BF (a:=b) (by omega))])
  (b:=(p,Y)) (a:=j) ⟨xz,by show p.m _=p.m _++M_ c.l g e a 0;unfold M_;simp⟩
 have xc:jj W9 64 4 [.n d.Ay.l,Z AD.c d.Ay,.p (r.pc a) 0,.n a,.n 0,.n a,y,z,.p c.x 0,Y] j=jj W9 64 4 [.n d.Ay.l,Z AD.c d.Ay,.p (r.pc a) 0,.n a,.n d.Ay.l,.n a,y,z,.p c.x 0,R] P:=xc;have xI:=Dz d.Ay.l;refine⟨S,R,P,?_,xA,xS⟩;rw[xc,Jb.2.2.2.2.2.1];simp only[↓Q,↓QT,Aic,xI]
def uw{d:CW}(M:Bj d.l){xh:Aa->Bz}{e:G}{a:Ah}{p:Ly}(y:EU xh e d.l d.es d.k d.x a p)(r:Dk d.l a):∃m o g,W9 (Ar 64) [.p d.x 0] e=A (m,o)/\WI e m o g/\g.m (·.2)=L7 d.l a:=by
 have xm:=y.N;have W:=C4 y.T;rw[Aip]at W;have xu:=r.AX;let⟨⟨g,m⟩,xa,Q,c,S⟩:=Ez (h:=a.T.l) (f:=λb l e=>jj W9 64 2 [.n a.T.l,p.cv,.p d.x 0,.n b,l.2] e)
  (g:=λb l o=>WI e l.2 o l.1/\l.1.m (·.2)=Kt d.l a b)
  (λb l o v q=>by
   let⟨Y,xz⟩:=l
   let⟨q,U⟩:=q
   simp only[]at q U⊢;let⟨z,u⟩:=Bo v
   have xr:=Dx v;let⟨xe,xo,x⟩:=r.Bw b z u
   have N:=y.ext q.E;let⟨xp,xw,xy⟩:=N.Lk u
   have xA:=N.N;have xq:o.AA (p.pc b) 0=A (.n xe):=by rw[AJ (N.Bw b z u).N];show A (F.n z.A4)=_;rw[x.ha]
   have xv:Y.l<=b*400:=by have t:=ZS M r b;grind
   let⟨T,xl,t,xd,Z,xf⟩:=vk M y r u x (.n a.T.l) p.cv q (by omega)
   refine⟨(T,xl),t,?_,Z,?_⟩;.show jj W9 64 2 _ _=jj W9 64 2 _ _;rw[Jb.2.2.1];simp only[QY,Jb.2.2.2.1,H (Da x.hb),Jb.2.2.2.2.1,H (BF (a:=b) (by omega)), *]
   .show T.m _=Kt d.l a b++(match a.T[b]?with|some z=>_|none=>_);rw[u,xf,U];simp only[];rw[x.BB])
  (b:=([],.sn)) (a:=e) ⟨⟨AF.sn e,P,P,P,AR.refl e,λw _=>CM w,P⟩,B⟩
 have Q:jj W9 64 2 [.n a.T.l,p.cv,.p d.x 0,.n 0,.sn] e=jj W9 64 2 [.n a.T.l,p.cv,.p d.x 0,.n a.T.l,m] xa:=Q;have c:WI e m _ g:=c;have S:g.m _=Kt _ a a.T.l:=S;have xt:g.l<200000:=by have t:=ZS M r a.T.l;grind
 have xj:SI g _ m _ _:=⟨c.CC,λf k=>k,c.ro,c.AX,c.I6,λxx xc=>⟨λ_=>B,xc⟩⟩;let⟨t,j,xd,J,X,xi⟩:=sZ AeO xj (by omega)
 have xs:=Dz a.T.l;have xk:j.z=g.l:=by rw[X.1,Akj]
 have xg:j.l.Perm g:=by have:=X.2.2;rw[Akj,<-xk,Array.extract_size]at this;grind
 refine⟨m,t,j.l,Bd B B ?_,⟨J.CC,λf k=>J.ro f P,λf k=>c.AX f P,λf k=>c.I6 f P,λw E=> ?_,c.fu,λf k=>c.fx f P⟩,?_⟩;.rw[Jb.1];simp only[QY,xm,W];rw[Q,Jb.2.2.1];simp only[QY,Jb.2.1, *]
 .have:=J.fr w (c.E.lv E);exact⟨(this.1 ⟨c.fu w E,λf k=>c.fx f k w E⟩).t (c.E.N E),P⟩
 .unfold L7;rw[<-S];refine mr ?_ (ez _) ((xg.map _).trans (Xg _).symm);rw[List.pairwise_map,List.pairwise_iff_getElem];intro b R v V xb;rw[Ajf]at v V;have:=xi b R Om xb (by grind);rw[Jf,Aj9,getElem!_pos j b v,getElem!_pos j R V]at this;have xn:=M7.Ni j[b].2 j[R].2;grind
end Go.Proofs.YtmnfpdedgnfeiaaGreat
namespace Go.Proofs.YtmnfpdedgnfeiaaGreat
open Go.Fg
def HA(b:C Ab)(a:Ah):C M:=(Ch b (a.at 0)).Bs.m (A9 (a.at 0))
def Ec(b:C Ab)(a:Ah):Cv:=⟨(GN a.Ae (HA b a)).Dj,(GN a.Ae (HA b a)).I,a.Aq,(a.T.l:K),(a.Ae.l:K),a.round,L7 b a⟩
def FP(a:Cv)(u:F):C F:=[Z M.c a.Dj,Z FJ a.I,.n a.Aq,.n a.K4,.n a.Ln,.n a.W4,u]
structure WR(h:G)(u:F)(t:C WE):Prop where
 CC:AF h u FV 2 t
 ro:∀a∈t,Ro h a.1 Bc.c 2 a.2.ES
theorem WR.fs{h:G}{u:F}{t:C WE}(a:WR h u t):Fs (λ_=>True) 4 h u (YtmnfpdedgnfeiaaGreat.Z Cc.c (t.m (·.2))):=by
 refine Fs.SL (c:=3) (d:=FV) (e:=Cc.c) (λ_ _=>Ais) (by omega) (λ_=>B) (λ_=>B) a.CC ?_
 have e:=a.ro
 clear a
 induction t with
 |nil=>exact .nil
 |cons b j i=>refine .cons ?_ P;have:=(e b P).fs (h:=λ_=>True) (λ_ _=>Ais) (λ_=>B) (λ_=>B);exact B6.cons (this.up (by omega)) (B6.cons ((Fs.im (c:=h) (a:=.n b.2.Ao) B).up (by omega)) (B6.nil 3 h))
theorem Ux{h:G}{c:Aa}{b a:D}{d:F}(e:Bf a h [.p c b]=A d):BV (.ld a) [.p c b] h d=L:=by show KT (Bf a h [.p c b]) d=L;rw[e];exact NR _
abbrev o7:C F:=[.sn,.sn,.n 0,.n 0,.n 0,.n 0,.sn]
theorem iv{b:CW}(X:Bj b.l){h:G}{a:Ah}{x:Aa->Prop}(V:D9 b h a x)(Y:Dk b.l a)(xu:Gg a.Ae)(xF:1<=a.T.l)(xO:∀g∈HA b.l a,GP g a.Ae.l=L):∃u E t,W9 (Ar 29) [.p b.x 0] h=A (.AC [.S (FP (Ec b.l a) u),.n 0],E)/\WR E u t/\t.m (·.2)=L7 b.l a/\BD x h E/\∀c,x c->Lv E c:=by
 let⟨w,I⟩:=Bo (b:=a.T) (a:=0) xF
 let⟨xg,p,v⟩:=Y.Bw 0 w I
 have T:=X.A4 xg p v.hb;have yd:=T.Bs;have xK:∀c,x c->Lv h c:=λc s=>V.Dy s;obtain⟨yk,yl,g,xv,rfl,yb⟩:=V;let⟨f,m,xM,xI,xq,ya,yf,yi⟩:=box h (.I 7 o7)
 have x8:∀(W:F->G->R),bl (.p h.next 0) (h.V (.I 7 o7)) W=W (.p f 0) m:=Em h _ xM xI;have o:=xv.ext xq;have x1:m.AA b.x 2=A g.cv:=AJ o.N 2;let⟨xb,xf,xn⟩:=o.Lk I
 have xf:AZ 1 [g.cv,.n 0]=A (.p xb 0):=by grind
 have xn:m.AA xb 0=A (.p (g.pc 0) 0):=by grind
 have x2:m.AU b.x 3 1=A [g.mv]:=by rw[EA o.N,Af (by omega),Ad (by omega)];rfl
 have x0:m.AA b.x 0=A (Z Ab.c b.l):=AJ o.N 0;have U:=o.Bw 0 w I;have xy:m.AA (g.pc 0) 0=A (.n xg):=by rw[AJ U.N];show A (F.n w.A4)=_;rw[v.ha]
 have xB:Bt 0 [.p b.x 3]=A (.p b.x 3):=by rw[F6]
 have xC:Bt 4 [.pi (Ab.c p)]=A (.pi ((Ab.c p).d 4)):=B;have xS:AW m [.pi ((Ab.c p).d 4)]=A (Z AH.c p.Bs):=B;have xd:=v.Dj T.ex;have xA:HA b.l a=p.Bs.m (A9 w):=by unfold HA;rw[DM I,v.BB]
 rw[<-xA]at xd;let⟨u,xG,xP,xX,xs,xD⟩:=iH U p.Bs xd (by omega)
 have xa:=o.ext xs;have xU:An (BV (.ld 1) [.p b.x 3] xG (.S [g.mv])) L Ac=L:=by rw[Ux];rfl;rw[Gk,EA xa.N,Af (by omega),Ad (by omega)];rfl
 have xL:(HA b.l a).l<=100:=by grind
 let⟨M,xQ,x3⟩:=iG xu xa.Ae xX xL xO
 have xr:AR m M:=λq N=>by have:=x3 q P (xD q N);grind
 have xw:=o.ext xr;let⟨xl,r,xN,xJ,xt,xc,xT,yj⟩:=box M (.I 2 (Cr.c (GN a.Ae (HA b.l a))))
 let⟨x9,xZ⟩:=F0 M (b:=2) [.sn,.sn] (c:=Cr.c (GN a.Ae (HA b.l a))) xN xJ B B
 have xY:r.AU xl 0 2=A (Cr.c (GN a.Ae (HA b.l a))):=B2 xc;have k:=xw.ext xt;have x7:r.AA b.x 5=A (.n a.Aq):=AJ k.N 5;have x4:r.AA b.x 2=A g.cv:=AJ k.N 2;have x5:r.AA b.x 3=A g.mv:=AJ k.N 3;have x6:r.AA b.x 4=A (.n a.round):=AJ k.N 4;have xi:=C4 k.T;rw[Aip]at xi;have xj:=C4 k.Ae.o;rw[Aip]at xj;let⟨j,d,t,xR,e,xW⟩:=uw X k Y
 have y:=k.ext e.E;have xV:An (BV .Dg [.p b.x 4] d (.n a.round)) (An (BV .Dg [.p b.x 3] d g.mv) (An (BV .Dg [.p b.x 2] d g.cv) (An (BV .Dg [.p b.x 5] d (.n a.Aq)) (An (BV (.ld 2) [.p xl 0] d (.S (Cr.c (GN a.Ae (HA b.l a))))) L Ac) Ac) Ac) Ac) Ac=L:=by rw[Lh (AJ y.N 4),Lh (AJ y.N 3),Lh (AJ y.N 2),Lh (AJ y.N 5),M2 ((e.E.N xT).t xc)];rfl
 have xz:BE o7 [(0,2),(2,1),(3,1),(4,1),(5,1),(6,1)] [.S (Cr.c (GN a.Ae (HA b.l a))),.n a.Aq,.n a.T.l,.n a.Ae.l,.n a.round,j]=A (.S (FP (Ec b.l a) j)):=by rcases e.CC with⟨rfl,_⟩|⟨_,_,rfl,_⟩<;>rfl
 have ye:Lv d f:=e.E.lv P;have xE:d.N f=A (.I 7 o7):=(e.E.N P).t P;have xx:Ct (FP (Ec b.l a) j)=L:=by rcases e.CC with⟨rfl,_⟩|⟨_,_,rfl,_⟩<;>rfl
 have xo:=Ho xE (a:=FP (Ec b.l a) j) B xx;have J:∀q,q≠f->(d.set f (.I 7 (FP (Ec b.l a) j))).N q=d.N q:=λq N=>by rw[AY,Ad N]
 have xm:(d.set f (.I 7 (FP (Ec b.l a) j))).AU f 0 7=A (FP (Ec b.l a) j):=B2 (by rw[AY,Af B]);have xk:∀q,Lv (d.set f (.I 7 (FP (Ec b.l a) j))) q=Lv d q:=by grind
 generalize d.set f (.I 7 (FP (Ec b.l a) j))=xH at xo J xm xk;have xh:Lv r f:=by grind
 refine⟨j,xH,t,Bd B B ?_,⟨e.CC.Av λc s S=>⟨J c (λa=>S (by rw[a];exact e.fu f xh)),by grind⟩,λxp xe=>(e.ro xp xe).Av λc yh w s S yc=>⟨by rw[J c (λa=>S (by rw[a];exact e.fx xp xe f xh))];grind,by grind⟩⟩,xW,λc s=> ?_,λc s=>by rw[xk];exact e.E.lv P⟩;.rw[wC];simp only[↓x8,↓x9,↓H xC,↓H xB,↓H xS,↓Q,↓H x1,↓H xf,↓H xn,↓H x2,↓H x0,↓H xy,↓H (Da v.hb),↓H xP,↓Jz xU,↓H xQ,↓H xZ,↓H xY,↓H x7,↓H x4,↓H xi,↓H x5,↓H xj,↓H x6,↓H xR,↓Jz xV,↓H xz,↓H xo,↓H xm]
 .have yg:=xK c s;rw[J c P];exact(e.E.N P).t P
def GR:Cv:=⟨[],[],0,0,0,0,[]⟩
section
variable{h:G} {u:F} {t:C WE} {q:Aa} {z:C F}
theorem WR.ap(c:WR h u t)(f:h.N q=A (.I 7 z)):AE u q:=Aih λb=>by
 rcases c.CC with⟨a,_⟩|⟨d,e,a,_,g,_⟩;.exact b (by rw[a];exact CM q)
 .cases Aih λi:q≠d=>b (by rw[a];exact Fe P)
  grind
theorem WR.set(a:WR h u t)(f:h.N q=A (.I 7 z))(d:Ce):WR (h.set q d) u t:=⟨a.CC.Av λg m c=>⟨by rw[AY,Ad (λb=>c (by rw[b];exact a.ap f))],by grind⟩,λi k=>(a.ro i k).Av λg v r m c l=>by
 refine⟨?_,by grind⟩;rw[AY];split
 .rename_i b;rw[b,f]at l;rcases a.ro i k with⟨e,_⟩|⟨d,p,e,j,_⟩;.exact A_ (by rw[e];exact CM g) c
  .rw[<-Aih λw:g≠d=>c (by rw[e];exact Fe P),b,f]at j;have s:7=i.2.ES.l*2:=(Aij (λo=>match o with|some (n,_)=>n|_=>0) j);omega
 omega⟩
theorem WR.at7(a:WR h u t)(b:Cv):Ct (FP b u)=L:=by rcases a.CC with⟨rfl,_⟩|⟨_,_,rfl,_⟩<;>rfl
theorem WR.fa(f:WR h u t){d:C Ab}{c:Ah}(i:t.m (·.2)=L7 d c):Fs (λ_=>True) 5 h (.S (FP (Ec d c) u)) (.S (Cv.c (Ec d c))):=by have e:=f.fs;rw[i]at e;have a:∀b:F,Im b=L->Fs (λ_=>True) 4 h b b:=λb g=>(Fs.im g).up (by omega);exact Fs.S (B6.cons (a _ B) (B6.cons (a _ B) (B6.cons (a _ B) (B6.cons (a _ B) (B6.cons (a _ B) (B6.cons (a _ B) (B6.cons e (B6.nil 4 _))))))))
theorem VS{b a:C F}(d:B6 (λ_=>True) 5 h b a):∃f,Dq h (.AC b)=A (.AC a,f):=by
 let⟨c,g,_⟩:=d 34 h (F2.refl _)
 refine⟨c,?_⟩;show(match Df _ h b with|some (a,e)=>A (F.AC a,e)|none=>O)=_;grind
theorem AdH(f:WR h u t)(g:h.N q=A (.I 7 z)){b:C Ab}{a:Ah}(j:t.m (·.2)=L7 b a):∃d e,A1 7 h [.p q 0,.S (FP (Ec b a) u)]=A (Ax,d)/\d.AU q 0 7=A (FP (Ec b a) u)/\Dq d (.AC [.S (FP (Ec b a) u),.n 0])=A (.AC [.S (Cv.c (Ec b a)),.n 0],e):=by
 let⟨e,i⟩:=VS (B6.cons ((f.set g (.I 7 (FP (Ec b a) u))).fa j) (B6.cons ((Fs.im (a:=.n 0) B).up (by omega)) (B6.nil 5 _)))
 exact⟨_,e,Ho g B (f.at7 _),B2 (by rw[AY,Af B]),i⟩
end
def Cj(b:C Ab)(a:Ah×K):Cv×K:=if a.2≠0 then(GR,a.2)else(Ec b a.1,0)
theorem g9{b:C Ab}(X:CA b){f m xb:D}(Y:f=400)(d:AS)(T:d.l.l<=2000000)(U:El d.l<=100000000){j:Ah->Prop}(s:∀e:CW,e.l=b->Lx e->P4 e f j)(p:∀a,HH b f m d=A a->a.2=0->j a.1){a:Ah×K}(xa:F7 b f m xb d=A a)(N:a.2=0->Dk b a.1/\Bj b/\Gg a.1.Ae/\1<=a.1.T.l/\∀xj∈HA b a.1,GP xj a.1.Ae.l=L):A2 8 [Z Ab.c b,.S (AS.c d)] (.AC [.S (Cv.c (Cj b a).1),.n (Cj b a).2]):=by
 let⟨xz,S,xt,xr,xk,Q,xd,xx⟩:=box G.Az (.I 2 (AS.c d))
 let⟨c,V,xu,xs,n,R,xw,xy⟩:=box S (.I 7 o7)
 have xA:=(n.N xd).t Q;let⟨xB,i,xc,v,xl,r⟩:=ck X Y d T U s p xa V (g:=λxf=>xf=c) P
 have k:=(v c B).t R;by_cases g:a.2=0
 .obtain⟨e,W,rfl,xm,o⟩:=r g;subst W;let⟨E,H,I,J,M⟩:=N g
  let⟨u,xo,t,xv,x,xe,w,_⟩:=iv H o E I J M
  let⟨xp,xq,xi,xg,y⟩:=AdH x ((w c B).t k) xe
  unfold Cj;rw[Ad (by grind)];refine FN B B ?_ y;rw[g]at xc;rw[c6.1];simp only[QY,c6.2, *]
 .have xh:Cj b a=(GR,a.2):=by unfold Cj;grind
  rw[xh];have xn:BE o7 [] []=A (.S o7):=B;have xi:=Ho k (a:=o7) B B;have xg:(i.set c (.I 7 o7)).AU c 0 7=A o7:=B2 (by rw[AY,Af B]);refine FN B B (e:=.AC [.S o7,.n a.2]) (c:=i.set c (.I 7 o7)) ?_ (h:=i.set c (.I 7 o7)) B;rw[c6.1];simp only[QY, *]
def EQ{a:Type}(e:C (C a))(c d:D)(b:a):a:=(((e[c]?).g [])[d]?).g b
def BQ(a:AP)(b:D):M:=(a.Ap[b]?).g AK
def Bg(a:AP)(b c:D):M:=EQ a.AB b c AK
def BW(a:AP)(b:D):K:=(a.AI[b]?).g 0
theorem Xv(a:AP)(b c:D):BT a b c=EQ a.A5 b c E3:=rfl
def PP(d:AP)(a:AH):A9 d a=if 0<=a.Aw then(if a.Ao<0 then BQ d a.Aw.n else Bg d a.Ao.n a.Aw.n)else AK:=by
 unfold A9 GX;by_cases b:0<=a.Aw
 .by_cases c:a.Ao<0;.rw[Af c,Af b,Af b,Af c];rfl
  .rw[Ad c,Af b,Af b,Ad c];unfold Bg EQ;grind
 grind
variable{b d e:D}
def I1{g:Type}{f:C (C g)}{a:D}{h c:g}(i:¬(a=d/\b=e)):EQ (C5 f d e h) a b c=EQ f a b c:=by unfold EQ C5;grind
def Fk{e:Type}(d:C (C e))(b c:D):Prop:=∃a,d[b]? =A a/\c<a.l
def OS{e:Type}{d:C (C e)}{a:D}{c f:e}(g:Fk d a b):EQ (C5 d a b c) a b f=c:=by
 let⟨h,j,i⟩:=g
 unfold EQ;have:(C5 d a b c)[a]? =A (h.set b c):=by unfold C5;grind
 grind
def oo{g:Type}{e:C (C g)}{a:D}{j d:g}(h:¬Fk e b a):EQ (C5 e b a j) b a d=d:=by
 unfold EQ C5;split
 .rename_i f i;have k:f.l<=a:=by
   rcases AiS a _ with c|c;.exact A_ ⟨f,i,c⟩ h
   omega
  grind
 grind
def aL{j:Type}(d:C (C j))(e f a b:D)(g c:j):EQ (C5 d e f g) a b c=g\/EQ (C5 d e f g) a b c=EQ d a b c\/EQ (C5 d e f g) a b c=c:=by
 by_cases h:a=e/\b=f
 .obtain⟨rfl,rfl⟩:=h;by_cases i:Fk d a b;.exact .i (OS i)
  .exact .j (.j (oo i))
 .exact .j (.i (I1 h))
def BN(a:D)(b:M):Prop:=GP b (a:K)=L
theorem Hb(a:D):BN a AK:=rfl
def BN.up{a:D}{c:M}(d:BN b c)(e:b<=a):BN a c:=by unfold BN GP BY at*;grind
structure HY(b d:AP):Prop where
 Ep:∀a,(BQ b a).Ai≠0->BQ d a=BQ b a
 Aw:∀c a,(Bg b c a).Ai≠0->Bg d c a=Bg b c a
def HY.refl(a:AP):HY a a:=⟨P,P⟩
def HY.AQ{e f g:AP}(c:HY e f)(h:HY f g):HY e g:=
 ⟨λa b=>(h.Ep a (by rw[c.Ep a b];grind)).t (c.Ep a b),λa d b=>(h.Aw a d (by rw[c.Aw a d b];grind)).t (c.Aw a d b)⟩
def HY.Dv{d e:AP}(f:HY d e){b:AH}(a:(A9 d b).Ai≠0):A9 e b=A9 d b:=by
 rw[PP]at a⊢;rw[PP];by_cases g:0<=b.Aw
 .rw[Af g]at a⊢;rw[Af g];by_cases c:b.Ao<0;.rw[Af c]at a⊢;rw[Af c];exact f.Ep _ a
  .rw[Ad c]at a⊢;rw[Ad c];exact f.Aw _ _ a
 grind
def DC(a:C AG):C K:=a.f λc=>c.AV.m λb=>b.Cq
def Jh(c:C Ab)(a:AP)(b:D):K:=(((Ch c a).Ay[b]?).g M6).op
def By(b:Ah)(a d c:D):Prop:=a<b.T.l/\(b.at a).AN=(d:K)/\(b.at a).Ao=(c:K)
structure WF(g:C Ab)(a:Ah):Prop where
 sh:Dk g a
 E8:Gg a.Ae
 Aq:0<=a.Aq/\a.Aq<=6000
 vp:∀b d,BN a.Ae.l (BQ (a.at b) d)
 vo:∀b c d,BN a.Ae.l (Bg (a.at b) c d)
 p0:∀b,b<a.T.l->(BQ (a.at b) 0).Ai≠0
 f0:∀b c,0<=BW (a.at b) c
 Ff:∀b c,BW (a.at b) c=0->∀d,(Bg (a.at b) c d).Ai=0/\BT (a.at b) c d=E3
 CX:∀e f c,By a e f c->0<BW (a.at f) c/\∀d,((Bg (a.at f) c d).Ai=0↔(BT (a.at f) c d).is=Ac)
 BS:∀b c d,BT (a.at b) c d=E3\/(BT (a.at b) c d).is=L/\∃e,By a e b c/\(a.at e).As=(BT (a.at b) c d).As
 IU:∀e h f c,By a e f c->By a h f c->(a.at h).As=(a.at e).As->h=e
 EO:∀b,b<a.T.l->(a.at b).next≠-1->(B8 g (a.at b)).Ai≠0/\(B8 g (a.at b)).Ai≠5
 AV:∀i∈DC a.Ae,∃b c:D,b<a.T.l/\c<1000/\i=((1000*b+c:D):K)/\Jh g (a.at b) c=12/\0<BW (a.at b) c/\(Bg (a.at b) c 0).Ai=0
 JN:(DC a.Ae).Nodup
def az(a:Ah):Prop:=∀b e d,By a b e d->0<(a.at b).As->∃c,c<a.T.l/\(a.at c).next=(b:K)
variable{a:Ah}
def Ee{d:AP}(e:b<a.T.l)(c:D):(a.AM b d).at c=if c=b then d else a.at c:=by unfold Ah.at Ah.AM;grind
def Hc{c:Ah}{a:D}{b:AP}(d:a<c.T.l):(c.AM a b).at a=b:=by rw[Ee d,Af B]
variable{c:D}
def P8{d:AP}(e:b<a.T.l)(f:c≠b):(a.AM b d).at c=a.at c:=by rw[Ee e,Ad f]
def D0(a:Ah)(c:D)(b:AP):(a.AM c b).T.l=a.T.l:=Aiv
def Cu(c:b<a.T.l):a.T[b]? =A (a.at b):=by
 let⟨e,d⟩:=Bo c
 rw[DM d];grind
def TB{c:C _}{a b:AP}(d:D4 a b):Ch c b=Ch c a:=by unfold Ch;rw[d.A4]
def m0{c:C _}{a b:AP}(f:D4 a b)(e:HY a b)(d:(B8 c a).Ai≠0):B8 c b=B8 c a:=by unfold B8 at*;rw[TB f];exact e.Dv d
structure D_(d:Ah)(e:D)(b:AP):Prop where
 hi:e<d.T.l
 BG:D4 (d.at e) b
 next:b.next=(d.at e).next
 Av:HY (d.at e) b
 vp:∀c,BN d.Ae.l (BQ b c)
 vo:∀a c,BN d.Ae.l (Bg b a c)
 f0:∀a,0<=BW b a
 fm:∀a,0<BW (d.at e) a->0<BW b a
 Ff:∀a,BW b a=0->∀c,(Bg b a c).Ai=0/\BT b a c=E3
 CX:∀f a,By d f e a->∀c,((Bg b a c).Ai=0↔(BT b a c).is=Ac)
 BS:∀a c,BT b a c=E3\/(BT b a c).is=L/\∃f,By d f e a/\(d.at f).As=(BT b a c).As
 AV:∀a:D,a<1000->((1000*e+a:D):K)∈DC d.Ae->(Bg b a 0).Ai=0
variable{f g:D}
def D_.E9{c:Ah}{e:AP}(a:D_ c d e):By (c.AM d e) b g f↔By c b g f:=by
 unfold By;rw[D0,Ee a.hi];by_cases h:b=d;.subst h;rw[Af B,a.BG.AN,a.BG.Ao]
 grind
def D_.As{c:AP}(b:D_ a e c)(d:D):((a.AM e c).at d).As=(a.at d).As:=by
 rw[Ee b.hi];split;.rename_i f;subst f;exact b.BG.As
 omega
def D_.A6{c:AP}(b:D_ a e c)(d:D):((a.AM e c).at d).next=(a.at d).next:=by
 rw[Ee b.hi];split;.rename_i f;subst f;exact b.next
 omega
def D_.Acu{b:Ah}{c:AP}(a:D_ b d c)(f:az b):az (b.AM d c):=λh k i j e=>by
 rw[a.As]at e;let⟨g,l,m⟩:=f h k i (a.E9.1 j) e
 exact⟨g,by rw[D0];grind,by rw[a.A6];grind⟩
variable{i:D}
def WF.AM{u:C _}{g:Ah}(d:WF u g){m:AP}(a:D_ g i m):WF u (g.AM i m)where
 sh:=d.sh.AM (Cu a.hi) a.BG a.next
 E8:=d.E8
 Aq:=d.Aq
 vp:=λc b=>by
  rw[Ee a.hi];split;.exact a.vp b
  .exact d.vp c b
 vo:=λc b f=>by
  rw[Ee a.hi];split;.exact a.vo b f
  .exact d.vo c b f
 p0:=λc l=>by
  rw[D0]at l;rw[Ee a.hi];split;.rw[a.Av.Ep 0 (d.p0 i Om)];exact d.p0 i Om
  .exact d.p0 c l
 f0:=λc b=>by
  rw[Ee a.hi];split;.exact a.f0 b
  .exact d.f0 c b
 Ff:=λc b=>by
  rw[Ee a.hi];split;.exact a.Ff b
  .exact d.Ff c b
 CX:=λe p b c=>by
  have t:=a.E9.1 c;have:=d.CX e p b t;rw[Ee a.hi];split;.rename_i h;subst h;exact⟨a.fm b Om,a.CX e b t⟩
  omega
 BS:=λo b c=>by
  have x:∀f:BC,(f=E3\/f.is=L/\∃e,By g e o b/\(g.at e).As=f.As)->(f=E3\/f.is=L/\∃e,By (g.AM i m) e o b/\((g.AM i m).at e).As=f.As):=by
   rintro f (q|⟨q,e,n,j⟩)
   .grind
   .exact .j ⟨q,e,a.E9.2 n,by rw[a.As];grind⟩
  refine x _ ?_;rw[Ee a.hi];split;.rename_i h;subst h;exact a.BS b c
  .exact d.BS o b c
 IU:=λe v p b n j k=>by rw[a.As,a.As]at k;exact d.IU e v p b (a.E9.1 n) (a.E9.1 j) k
 EO:=λc l r=>by
  rw[D0]at l;rw[a.A6]at r;have:=d.EO c l r;rw[Ee a.hi];split;.rename_i h;subst h;rw[m0 a.BG a.Av Om];grind
  omega
 AV:=λy s=>by
  let⟨c,b,n,j,k,z,w,E⟩:=d.AV y s
  refine⟨c,b,by rw[D0];grind,j,k,?_⟩;rw[Ee a.hi];split;.rename_i h;subst h;refine⟨?_,a.fm b w,a.AV b j (k▸s)⟩;unfold Jh at*;rw[TB a.BG];grind
  omega
 JN:=d.JN
def SV{d:Type}(c b:D)(a:d):((Bv c a)[b]?).g a=a:=by grind
def Tv{h b:Type}(f:C b)(c:b->D)(a:h)(d e:D):EQ (f.m λg=>Bv (c g) a) d e a=a:=by unfold EQ;grind
def FG{c:AP}{e:C AG}{f d:K}(b:D):(Ah.mk (a.T++[c]) e f d).at b=if b=a.T.l then c else a.at b:=by
 unfold Ah.at;by_cases g:b=a.T.l;.grind
 grind
def Nk(c:a.T.l<=b):a.at b=Qi:=by unfold Ah.at;grind
structure ay(d:D)(a:AP)(e b:D)(f:K):Prop where
 AN:a.AN=(e:K)
 Ao:a.Ao=(b:K)
 As:a.As=f
 next:a.next= -1
 vp:∀c,BN d (BQ a c)
 p0:(BQ a 0).Ai≠0
 AI:∀b,BW a b=0
 Aw:∀b c,Bg a b c=AK
 FZ:∀b c,BT a b c=E3
def Zq{n:C Ab}{a:Ab}{j h f:K}{i:K}{c:M}(k:h=(g:K))(l:f=(b:K))(p:BN d c)(m:c.Ai≠0)(o:1<=a.Ap):ay d {Dl n a j h f i with Ap:=(Bv a.Ap.n AK).set 0 c} g b i where
 AN:=k
 Ao:=l
 As:=B
 next:=B
 vp:=λe=>by
  show BN d ((((Bv a.Ap.n AK).set 0 c)[e]?).g AK);by_cases q:e=0;.grind
  .rw[AiU Om,SV];exact Hb d
 p0:=by show((((Bv a.Ap.n AK).set 0 c)[0]?).g AK).Ai≠0;rw[AiF (by rw[AjD];omega)];exact m
 AI:=λb=>SV _ _ _
 Aw:=λb e=>Tv _ _ _ _ _
 FZ:=λb e=>Tv _ _ _ _ _
variable{n:D}
def WF.K1{t:C Ab}(d:WF t a){o:AP}{w:K}(x:Dk t ⟨a.T++[o],a.Ae,a.round,a.Aq⟩)(e:ay a.Ae.l o i n w)(J:i<a.T.l)(I:0<BW (a.at i) n/\∀c,((Bg (a.at i) n c).Ai=0↔(BT (a.at i) n c).is=Ac))(G:∀v,By a v i n->(a.at v).As≠w):WF t ⟨a.T++[o],a.Ae,a.round,a.Aq⟩:=by
 have u:(Ah.mk (a.T++[o]) a.Ae a.round a.Aq).T.l=a.T.l+1:=Aio;have s:∀{b f g:D},By ⟨a.T++[o],a.Ae,a.round,a.Aq⟩ b f g↔(b=a.T.l/\f=i/\g=n)\/By a b f g:=by
  intro b f g;unfold By;rw[u,FG];by_cases j:b=a.T.l;.subst j;rw[Af B,e.AN,e.Ao];omega
  grind
 have M:∀{b f g:D},By a b f g->b≠a.T.l:=λc=>by have:=c.1;omega
 exact{
  sh:=x
  E8:=d.E8
  Aq:=d.Aq
  vp:=λc b=>by
   rw[FG];split;.exact e.vp b
   .exact d.vp c b
  vo:=λc b k=>by
   rw[FG];split;.rw[e.Aw];exact Hb _
   .exact d.vo c b k
  p0:=λc l=>by
   rw[u]at l;rw[FG];split;.exact e.p0
   .exact d.p0 c (by omega)
  f0:=λc b=>by
   rw[FG];split;.rw[e.AI];omega
   .exact d.f0 c b
  Ff:=λc b=>by
   rw[FG];split;.intro _ k;exact⟨by rw[e.Aw];rfl,e.FZ b k⟩
   .exact d.Ff c b
  CX:=λb f g c=>by
   rcases s.1 c with⟨rfl,rfl,rfl⟩|c;.rw[FG,Ad (by omega)];omega
   .have:=d.CX b f g c;rw[FG,Ad (λj=>by subst j;rw[Nk Om]at this;exact A_ this.1 (by show¬(0:K)<0;omega):f≠a.T.l)];omega
  BS:=λr b c=>by
   rw[FG];split;.exact .i (e.FZ b c)
   .rcases d.BS r b c with l|⟨l,k,p,m⟩;.grind
    .exact .j ⟨l,k,P,by rw[FG,Ad P];omega⟩
  IU:=λb k f g p m h=>by
   rw[FG,FG]at h;rcases s.1 p with⟨rfl,rfl,rfl⟩|p<;>rcases s.1 m with⟨rfl,z,E⟩|m;.rfl
   .rw[Ad P,Af B,e.As]at h;grind
   .subst z;subst E;rw[Af B,Ad P,e.As]at h;grind
   .rw[Ad P,Ad P]at h;exact d.IU b k f g p m h
  EO:=λc l q=>by
   rw[u]at l;rw[FG]at q⊢;split;.rename_i j;rw[Af j]at q;exact A_ e.next q
   .rename_i j;rw[Ad j]at q;exact d.EO c (by omega) q
  AV:=λF y=>by obtain⟨r,b,p,m,h,H⟩:=d.AV F y;exact⟨r,b,by omega,m,h,by rw[FG,Ad (by omega)];omega⟩
  JN:=d.JN}
def WF.S2{l:C Ab}{e:Ah}(h:WF l e)(s:g<e.T.l){n:K}(v:Dk l (e.AM g {e.at g with next:=n}))(E:(B8 l (e.at g)).Ai≠0/\(B8 l (e.at g)).Ai≠5):WF l (e.AM g {e.at g with next:=n}):=by
 have d:∀(b:D){u:Type}(m:AP->u),(m {e.at g with next:=n}=m (e.at g))->m ((e.AM g {e.at g with next:=n}).at b)=m (e.at b):=λb u m i=>by rw[Ee s];grind
 have F:∀{c j k:D},By (e.AM g {e.at g with next:=n}) c j k↔By e c j k:=by intro c j k;unfold By;rw[D0,d c (λa=>a.AN) B,d c (λa=>a.Ao) B]
 exact{
  sh:=v
  E8:=h.E8
  Aq:=h.Aq
  vp:=λb c=>by rw[d b (λa=>BQ a c) B];exact h.vp b c
  vo:=λb c f=>by rw[d b (λa=>Bg a c f) B];exact h.vo b c f
  p0:=λb i=>by rw[D0]at i;rw[d b (λa=>BQ a 0) B];exact h.p0 b i
  f0:=λb c=>by rw[d b (λa=>BW a c) B];exact h.f0 b c
  Ff:=λb c i f=>by rw[d b (λa=>BW a c) B]at i;rw[d b (λa=>Bg a c f) B,d b (λa=>BT a c f) B];exact h.Ff b c i f
  CX:=λc j k b=>by have:=h.CX c j k P;rw[d j (λa=>BW a k) B];exact⟨Om,λf=>by rw[d j (λa=>Bg a k f) B,d j (λa=>BT a k f) B];grind⟩
  BS:=λb c f=>by
   rw[d b (λa=>BT a c f) B];rcases h.BS b c f with i|⟨i,q,r,p⟩;.grind
   .exact .j ⟨i,q,P,by rw[d q (λa=>a.As) B];omega⟩
  IU:=λc f j k r p o=>by rw[d c (λa=>a.As) B,d f (λa=>a.As) B]at o;exact h.IU c f j k P P o
  EO:=λb i t=>by
   rw[D0]at i;rw[d b (λa=>B8 l a) B];by_cases x:b=g;.grind
   .rw[P8 s x]at t;exact h.EO b i t
  AV:=λy w=>by obtain⟨b,c,r,p,o,z⟩:=h.AV y w;exact⟨b,c,by rw[D0];omega,p,o,by rw[d b (λa=>Jh l a c) B,d b (λa=>BW a c) B,d b (λa=>Bg a c 0) B];omega⟩
  JN:=h.JN}
def D_.refl{j:C Ab}{c:Ah}(b:WF j c){a:D}(g:a<c.T.l):D_ c a (c.at a)where
 hi:=g
 BG:=D4.refl _
 next:=B
 Av:=HY.refl _
 vp:=b.vp a
 vo:=b.vo a
 f0:=b.f0 a
 fm:=λ_ f=>f
 Ff:=b.Ff a
 CX:=λe d i=>(b.CX e a d i).2
 BS:=b.BS a
 AV:=λd s h=>by obtain⟨k,l,m,n,o,p,q,r⟩:=b.AV _ h;grind
def D_.uU{g:Ah}{a:AP}(b:D_ g i a){e:M}(o:BN g.Ae.l e)(d:D):D_ g i (ER a d e).1:=by
 have k:=iV a d e;unfold ER at*;split;.omega
 .rename_i h;rw[Ad h]at k;have m:(BQ a d).Ai=0:=Aih λf=>h (.j f);exact{
   hi:=b.hi
   BG:=b.BG.AQ P
   next:=b.next
   Av:=b.Av.AQ ⟨λc p=>by show(((a.Ap.set d e)[c]?).g AK)=_;rw[AiU (λl=>(P:c≠d) l.s)];rfl,λ_ _ _=>B⟩
   vp:=λc=>by
    have j:BQ {a with Ap:=a.Ap.set d e} c=e\/BQ {a with Ap:=a.Ap.set d e} c=BQ a c:=by
     show(((a.Ap.set d e)[c]?).g AK)=_\/(((a.Ap.set d e)[c]?).g AK)=_;by_cases f:c=d
     .subst f;by_cases n:c<a.Ap.l;.grind
      .right;rw[Aji (by grind)];unfold BQ;grind
     .exact .j (by rw[AiU Om];rfl)
    rcases j with f|f;.grind
    .rw[f];exact b.vp c
   vo:=b.vo
   f0:=b.f0
   fm:=b.fm
   Ff:=b.Ff
   CX:=b.CX
   BS:=b.BS
   AV:=b.AV}
def D_.C2{b:Ah}{g:D}{d:AP}(c:D_ b g d){h:AH->M}{f:C AH}(i:∀e∈f,BN b.Ae.l (h e)):∀a,D_ b g (C2 h f d a).1
 |0=>c
 |a+1=>by
  have j:=D_.C2 c i a;unfold YtmnfpdedgnfeiaaGreat.C2;split;.rename_i e k;exact j.uU P a
  omega
structure Td(a:Ah)(c b:D)(e:BC):Prop where
 is:e.is=L
 CX:∃d,By a d c b/\(a.at d).As=e.As
 AI:0<BW (a.at c) b
 AV:((1000*c+b:D):K)∉DC a.Ae
variable{j:M}
def D_.GA{l:Ah}{c:AP}{i:BC}(g:D_ l n c)(m:Td l n b i)(G:BN l.Ae.l j)(E:j.Ai≠0)(t:Fk c.AB b d)(p:Fk c.A5 b d):D_ l n (CE c b d j i).1:=by
 have s:=aU c b d j i;unfold CE at*;split;.omega
 .split;.omega
  .rename_i w x;rw[Ad w,Ad x]at s;obtain⟨k,r,y⟩:=m.CX;have F:(Bg c b d).Ai=0:=(g.CX k b r d).2 P;have z:0<BW c b:=g.fm b m.AI;exact{
    hi:=g.hi
    BG:=g.BG.AQ s.1
    next:=g.next
    Av:=g.Av.AQ ⟨λ_ _=>B,λh a H=>I1 P⟩
    vp:=g.vp
    vo:=λh a=>by
     show BN _ (EQ (C5 c.AB b d j) h a AK);rcases aL c.AB b d h a j AK with e|e|e;.grind
     .rw[e];exact g.vo h a
     .rw[e];exact Hb _
    f0:=g.f0
    fm:=g.fm
    Ff:=λh o a=>by
     have e:¬(h=b/\a=d):=λe=>by obtain⟨rfl,rfl⟩:=e;have o:BW c h=0:=o;omega
     have:=g.Ff h o a;refine⟨?_,?_⟩;.show(EQ (C5 c.AB b d j) h a AK).Ai=0;rw[I1 e];exact this.1
     .show EQ (C5 c.A5 b d i) h a E3=E3;rw[I1 e];exact this.2
    CX:=λh a v f=>by
     show((EQ (C5 c.AB b d j) a f AK).Ai=0↔(EQ (C5 c.A5 b d i) a f E3).is=Ac);by_cases e:a=b/\f=d;.obtain⟨rfl,rfl⟩:=e;rw[OS t,OS p];exact⟨Om,λe=>by rw[m.is]at e;grind⟩
     .rw[I1 e,I1 e];exact g.CX h a v f
    BS:=λa f=>by
     show EQ (C5 c.A5 b d i) a f E3=E3\/_;by_cases e:a=b/\f=d;.obtain⟨rfl,rfl⟩:=e;right;show(EQ (C5 c.A5 a f i) a f E3).is=L/\∃k,By l k n a/\(l.at k).As=(EQ (C5 c.A5 a f i) a f E3).As;rw[OS p];exact⟨m.is,k,r,y⟩
     .show EQ (C5 c.A5 b d i) a f E3=E3\/(EQ (C5 c.A5 b d i) a f E3).is=L/\∃k,By l k n a/\(l.at k).As=(EQ (C5 c.A5 b d i) a f E3).As;rw[I1 e];exact(g.BS a f)
    AV:=λa u q=>by show(EQ (C5 c.AB b d j) a 0 AK).Ai=0;rw[I1 (λe=>by obtain⟨rfl,_⟩:=e;exact m.AV q:¬(a=b/\(0:D)=d))];exact g.AV a u q}
def MV{i:Type}{a b:C (C i)}(j:b.m List.length=a.m List.length)(g:Fk a c d):Fk b c d:=by obtain⟨m,e,k⟩:=g;obtain⟨h,f,l⟩:=Ws (e:=b) (c:=a) P e;exact⟨h,f,by omega⟩
def D_.B7{e:Ah}{h c:D}{b:AP}{g:BC}(k:D_ e h b)(j:Td e h c g){i:D->M}(o:∀a,BN e.Ae.l (i a)){f:D}(m:∀a,a<f->Fk b.AB c a)(n:∀a,a<f->Fk b.A5 c a):∀d,d<=f->D_ e h (B7 i c g b d).1
 |0,_=>k
 |d+1,r=>by
  have p:=D_.B7 k j o m n d (by omega);have l:=(Ty i c g b d).1;unfold YtmnfpdedgnfeiaaGreat.B7;split;.omega
  .rename_i q;split;.omega
   .exact p.GA j P Om (MV l.AB P) (MV l.A5 P)
def WF.A9{e:C Ab}(c:WF e a)(b:D)(d:AH):BN a.Ae.l (A9 (a.at b) d):=by
 rw[PP];split
 .split;.exact c.vp b _
  .exact c.vo b _ _
 .exact Hb _
structure Bn(b:C Ab)(a:Ah):Prop where
 W:WF b a
 V:az a
def Bn.AM{f:C Ab}(c:Bn f a){d:AP}(b:D_ a e d):Bn f (a.AM e d):=⟨c.W.AM b,b.Acu c.V⟩
def XN{c:C Ab}{b:Ah}(a:Bn c b)(f:d<b.T.l):Bn c (Cl c b d).1:=by
 unfold Cl;simp only[];split;.omega
 .exact a.AM ((D_.refl a.W f).C2 (λe _=>a.W.A9 _ e) _)
def Bn.up{i:C Ab}(j:Bn i a)(h:b<a.T.l)(k:(a.at b).AN≠-1):∃c e f g,Gz i a b (a.at b) c e (a.at c) f g/\By a b c e/\c<a.T.l:=by obtain⟨c,e,l,f,g,d⟩:=(j.W.sh.up b _ (Cu h)).resolve_left k;have:=DM d.Cp;subst this;exact⟨c,e,f,g,d,⟨h,d.AN,d.Ao⟩,(Aid.1 d.Cp).1⟩
def WF.AbE{c:C Ab}(e:WF c a)(m:b<1000)(n:Jh c (a.at d) b≠12):((1000*d+b:D):K)∉DC a.Ae:=λf=>by obtain⟨g,h,i,j,k,l,_⟩:=e.AV _ f;grind
def Gz.Jh{d:C Ab}{i:Ah}{j:D}{h:AP}{k:D}{b:AP}{g:Ab}{e:AD}(a:Gz d i j h k c b g e):Jh d b c=e.op:=by obtain⟨l,f⟩:=a.FM;unfold YtmnfpdedgnfeiaaGreat.Jh;rw[f.BB,a.hn];rfl
def Gz.GA{f:C Ab}(k:Bj f)(h:Bn f a){i:Ab}{m:AD}(d:Gz f a b (a.at b) c e (a.at c) i m)(g:By a b c e)(n:Ak):Td a c e ⟨(a.at b).As,n,L⟩where
 is:=B
 CX:=⟨b,g,B⟩
 AI:=(h.W.CX b c e g).1
 AV:=by obtain⟨l,j⟩:=d.FM;have o:=(Aid.1 d.hn).1;have:=(k.A4 l i j.hb).Ay;exact h.W.AbE (by omega) (by rw[d.Jh];have:=d.op;omega)
def Gz.E_{j:C Ab}(p:Bj j){s:Ah}{w y a:D}{n d:AP}{m:Ab}{h:AD}(b:Gz j s w n y a d m h){o:D}{e:Ab}(k:DU j o e n):∃g f,d.AB[a]? =A g/\d.A5[a]? =A f/\g.l=e.Bs.l/\f.l=e.Bs.l:=by
 obtain⟨x,c⟩:=b.FM;have M:=(Aid.1 b.hn).1;obtain⟨g,v⟩:=Bo (b:=d.AB) (a:=a) (by rw[c.AB];omega);obtain⟨f,u⟩:=Bo (b:=d.A5) (a:=a) (by rw[c.A5];omega);obtain⟨q,r,F,t,G,H,I⟩:=((p.A4 x m c.hb).Ao a h b.hn).call b.op;have z:=c.Aw a h g b.hn v;have E:=c.BS a h f b.hn u;have:r=e:=by
  have J:=b.CO;have:q=o:=by have:=k.ha;omega
  subst this;exact AiI (t.s.t k.hb)
 grind
def Yo{d:C Ab}(g:Bj d){c:Ah}(a:Bn d c)(i:b<c.T.l)(l:(c.at b).AN≠-1):Bn d (Et d c b).1:=by
 obtain⟨w,t,s,v,h,e,m⟩:=a.up i l;obtain⟨u,k,f⟩:=a.W.sh.Bw b _ (Cu i);obtain⟨p,o,q,r,x,y⟩:=h.E_ g f;unfold Et;simp only[e.2.1,e.2.2,Aif,f.BB];refine a.AM ((D_.refl a.W m).B7 (h.GA g a e Ac) (λj=> ?_) (f:=k.Bs.l) (λj n=>⟨p,q,by omega⟩) (λj n=>⟨o,r,by omega⟩) _ Om);unfold DN;split;.exact a.W.A9 b _
 .exact Hb _
def Aev{e:C Ab}(f:Bj e){b:Ah}(a:Bn e b)(h:c<b.T.l)(n:(b.at c).AN≠-1)(p:BN b.Ae.l j):Bn e (HU b c j).1:=by obtain⟨y,v,u,x,g,d,o⟩:=a.up h n;obtain⟨w,m,l⟩:=a.W.sh.Bw c _ (Cu h);obtain⟨s,r,i,t,z,E⟩:=g.E_ f l;unfold HU;simp only[d.2.1,d.2.2,Aif,i,Aiz];exact a.AM ((D_.refl a.W o).B7 (g.GA f a d L) (λk=>p) (f:=m.Bs.l) (λk q=>⟨s,i,by omega⟩) (λk q=>⟨r,t,by omega⟩) _ (by omega))
def Abz{c:C Ab}(b:Bn c a)(f:(a.at d).next.n<a.T.l):Bn c (Gp c a d).1:=by unfold Gp;exact b.AM ((D_.refl b.W f).C2 (λe _=>b.W.A9 _ e) _)
def Bn.next{h:C Ab}(e:Bn h a)(f:b<a.T.l)(g:(a.at b).next≠-1):∃c:D,L9 a b (a.at b) c (a.at c)/\c<a.T.l:=by obtain⟨c,i,d⟩:=(e.W.sh.next b _ (Cu f)).resolve_left g;have:=DM d.Cp;subst this;exact⟨c,d,(Aid.1 d.Cp).1⟩
def Bn.Gl{n:C Ab}(h:Bn n a)(k:By a c e d)(r:(a.at c).next= -1)(s:0<=(a.at c).As):∀b,By a b e d->(a.at b).As≠(a.at c).As+1:=λb g o=>by
 obtain⟨i,j,p⟩:=h.V b e d g (by omega);obtain⟨m,f,q⟩:=h.next j (by omega);have l:m=b:=by have:=f.next;omega
 subst l;have:=h.W.IU i c e d (⟨j,f.AN.s.t g.2.1,f.Ao.s.t g.2.2⟩:By a i e d) k (by have:=f.As;omega);grind
def Zt{g:C Ab}(E:Bj g){c:Ah}(h:Bn g c)(w:e<c.T.l)(xf:(c.at e).AN≠-1)(xc:(B8 g (c.at e)).Ai≠0)(xn:(B8 g (c.at e)).Ai≠5):Bn g (Fh g c e).1:=by
 obtain⟨F,R,Y,xi,i,I,xg⟩:=h.up w xf;obtain⟨q,j,p⟩:=h.W.sh.Bw e _ (Cu w);have G:=(Wz E h.W.sh (Cu w) i p).2.1;unfold Fh at*;simp only[]at*;split at G
 .rename_i Q;rw[Af Q];by_cases xa:c.T.l=400
  .have xo:ED g c (c.at e).A4 (c.at e).AN (c.at e).Ao ((c.at e).As+1) (B8 g (c.at e))=(c,5):=by unfold ED;grind
   grind
  .have xd:ED g c (c.at e).A4 (c.at e).AN (c.at e).Ao ((c.at e).As+1) (B8 g (c.at e))=(⟨c.T++[{Dl g j q (c.at e).AN (c.at e).Ao ((c.at e).As+1)with Ap:=(Bv j.Ap.n AK).set 0 (B8 g (c.at e))}],c.Ae,c.round,c.Aq⟩,0):=by
    unfold ED;rw[Ad xa,p.ha,Aif,p.hb]
   rw[xd]at G⊢
   have Z:¬((0:K)≠0):=by omega
   rw[Ad Z]at G⊢
   have H:=E.A4 q j p.hb
   have xq:=h.W.sh.As e _ (Cu w)
   have xp:=h.W.sh.AX
   have W:=h.W.sh.K1 (g:={Dl g j q (c.at e).AN (c.at e).Ao ((c.at e).As+1)with Ap:=(Bv j.Ap.n AK).set 0 (B8 g (c.at e))}) (u:=c.Ae) (w:=c.round) (q:=c.Aq) (by omega) ⟨q,j,Wy E p.hb _ _ _ _ (dy H.Ap.1 _)⟩ ⟨F,R,c.at F,Y,xi,i.AN,i.Ao,by omega,i.Cp,i.FM,i.hn,i.op,i.CO.t p.ha⟩ B (by show 0<=(c.at e).As+1/\(c.at e).As+1<=_;omega)
   have V:=Zq (n:=g) (a:=j) (j:=(q:K)) (i:=(c.at e).As+1) (c:=B8 g (c.at e)) (d:=c.Ae.l) i.AN i.Ao (h.W.A9 e _) xc H.Ap.1
   generalize({Dl g j q (c.at e).AN (c.at e).Ao ((c.at e).As+1)with Ap:=(Bv j.Ap.n AK).set 0 (B8 g (c.at e))}:AP)=u at*
   have X:=h.W.K1 W V xg (h.W.CX e F R I) (h.Gl I Q Om)
   have S:(Ah.mk (c.T++[u]) c.Ae c.round c.Aq).T.l=c.T.l+1:=Aio
   have xb:(Ah.mk (c.T++[u]) c.Ae c.round c.Aq).at e=c.at e:=by rw[FG,Ad (by omega)]
   have x:e<(Ah.mk (c.T++[u]) c.Ae c.round c.Aq).T.l:=by omega
   have J:=X.S2 x (n:=(c.T.l:K)) (by grind) (by grind)
   rw[xb]at J
   refine⟨J,λo M U k T=> ?_⟩
   have z:∀{xj:Type}(s:AP->xj),(s {c.at e with next:=(c.T.l:K)}=s (c.at e))->∀k,k≠c.T.l->s (((Ah.mk (c.T++[u]) c.Ae c.round c.Aq).AM e {c.at e with next:=(c.T.l:K)}).at k)=s (c.at k):=λs xk k xe=>by
    rw[Ee x];split;.grind
    .rw[FG,Ad xe]
   by_cases y:o=c.T.l
   .exact⟨e,by rw[D0];omega,by rw[Hc x,y]⟩
   .have xh:=k.1;rw[D0,S]at xh;have T:0<(c.at o).As:=by rw[<-z (λn=>n.As) B o y];omega
    obtain⟨n,xl,xm⟩:=h.V o M U (⟨by omega,by rw[<-z (λn=>n.AN) B o y];exact k.2.1,by rw[<-z (λn=>n.Ao) B o y];exact k.2.2⟩:By c o M U) T;refine⟨n,by rw[D0,S];omega,?_⟩;rw[P8 x P,FG,Ad (by omega)];omega
 grind
def kD{e:C Ab}(f:Bj e){d:Ah}(a:Bn e d)(b:c<d.T.l)(g:(d.at c).AN≠-1):Bn e (EM e d c).1:=by
 obtain⟨z,v,p,y,j,o,t⟩:=a.up b g;obtain⟨x,q,i⟩:=a.W.sh.Bw c _ (Cu b);unfold EM;simp only[];split;.omega
 .rename_i l;split;.exact Aev f a b g (a.W.A9 c _)
  .rename_i n;have k:=Zt f a b g l n;split;.omega
   .rename_i u;obtain⟨r,w,s,m,h⟩:=(Wz f a.W.sh (Cu b) j i).2.2 Om;refine Abz k ?_;rw[(DM m),h.next,Aif];exact(Aid.1 h.Cp).1
def HX.Tu{b c:Ah}(f:HX b c){a:D}(e:a<b.T.l):D4 (b.at a) (c.at a)/\(c.at a).next=(b.at a).next:=by obtain⟨g,d,h,i⟩:=f.Cp a _ (Cu e);rw[DM d];grind
def u5{a:C Ab}(f:Bj a){c:Ah}(m:Bn a c)(e:b<c.T.l):Bn a (Eb a c b).1:=by
 unfold Eb;simp only[];split;.omega
 .rename_i s;have j:=(Vj (c:=a) (Cu e)).1;have h:=XN m e;have o:=(j.Tu e).1;have d:b<(Cl a c b).1.T.l:=by rw[j.AX];omega
  have i:((Cl a c b).1.at b).AN≠-1:=by rw[o.AN];omega
  have n:=Yo f h d i;obtain⟨w,u,r,v,g,q,t⟩:=h.up d i;have k:=(VJ (b:=a) (Cu d) g.AN g.Cp).1;have p:=(k.Tu d).1;split;.omega
  .split;.omega
   .exact kD f n (by rw[k.AX];omega) (by rw[p.AN];omega)
def SN{a:C Ab}(c:Bj a){e:Ah}(d:Bn a e):∀b,Bn a (Cb a e b).1
 |0=>d
 |b+1=>by
  have f:=SN c d b;rw[PB];split;.omega
  .rename_i g;exact u5 c f Om
def cA{c:C Ab}(e:Bj c){g:D}:∀{h:D}{b:Ah}{d:Ah×K},Bn c b->He c g h b=A d->Bn c d.1
 |0,b,d,f,a=>by cases a
 |h+1,b,d,f,a=>by
  have i:=SN e f g;unfold He at a;split at a;.grind
  .split at a;.exact cA e i a
   grind
def cD{a:C Ab}(h:Bj a){b:Ah}{g:Ah×K}(i:Bn a b)(c:Hf a e f b=A g):Bn a g.1:=by
 unfold Hf at c
 cases d:He a e f b with
 |none=>grind
 |some j=>rw[d]at c;have:=cA h i d;grind
def Adq(a b:C _):DC (a++b)=DC a++DC b:=by unfold DC;grind
def PJ(a:C _):BZ a=(DC a).l:=by
 induction a with
 |nil=>rfl
 |cons b c d=>
  have:DC (b::c)=b.AV.m (λe=>e.Cq)++DC c:=by unfold DC;grind
  rw[this,Aio,Aiw,<-d];rfl
def eb{f:C _}{h:AG}(k:f[c]? =A h):∃e,(DC f).Perm (h.AV.m (λb=>b.Cq)++e)/\∀i:AG,(DC (f.set c i)).Perm (i.AV.m (λb=>b.Cq)++e):=by
 induction f generalizing c with
 |nil=>grind
 |cons d g j=>
  have n:∀(d:AG)(g:C _),DC (d::g)=d.AV.m (λb=>b.Cq)++DC g:=λd g=>by unfold DC;grind
  cases c with
  |zero=>grind
  |succ c=>
   let⟨e,l,m⟩:=j (c:=c) (by grind)
   refine⟨d.AV.m (λb=>b.Cq)++e,?_,P⟩<;>grind
def MU{a:C _}:Gg a↔a.l<=400/\(∀b∈a,b.I.l<=100/\OH a.l b=L)/\BZ a<=6000:=by
 constructor
 .intro c;have e:=c.Vx;unfold No at e;split at e;.rename_i h;rw[Aie]at h;exact⟨c.ok.1,λb d=>⟨(c.ok.2 b d).1,P⟩,c.Q5⟩
  omega
 .rintro⟨f,l,m⟩
  refine⟨⟨f,λb d=>⟨P,?_⟩⟩,?_⟩
  .let⟨k,g⟩:=Ajh.1 d
   let⟨j,i,_⟩:=eb g
   have:=i.length_eq;rw[<-PJ,Aio,Aiw]at this;omega
  .unfold No;grind
def Nb{h:D}{c:AG}:OH h c=L↔(∀b∈c.I,BN h b)/\∀a∈c.AV,0<=a.Cy/\a.Cy<=c.I.l-1/\((c.I[a.Cy.n]?).g AK).Ai=0:=by
 unfold OH BY;rw[Aie,AiP,AiP];constructor
 .rintro⟨d,e⟩
  refine⟨λb g=>by have:=d b g;rw[R8 b (by omega)]at this;exact this,λa f=> ?_⟩;have:=e a f;simp only[Aie,Ain]at this;grind
 .rintro⟨d,e⟩
  refine⟨λb g=>by rw[R8 b (by omega)];exact d b g,λa f=> ?_⟩;have:=e a f;simp only[Aie,Ain];grind
def iZ{a:C AG}(d:Gg a){h b:AG}(l:a[c]? =A h)(m:b.I.l<=100)(n:OH a.l b=L)(e:BZ (a.set c b)<=6000):Gg (a.set c b):=by
 let⟨i,j,k⟩:=MU.1 d
 refine MU.2 ⟨by grind,λo f=> ?_,e⟩;rw[Aiv];rcases Akc f with g|g;.grind
 .grind
def Aek(a:D)(c:K):BN a (G8 c):=by
 unfold G8;split;.rename_i b;exact b
 .rfl
def fT(b:D)(a:Ak):BN b (ET a):=by cases a<;>rfl
def OV(b:D){a:K}(c:1<=a/\a<=5):BN b (D2 a):=by show BY a 1 5=L;unfold BY;grind
def fC{a:D}:∀{b:C _},(∀c∈b,BN a c)->BN a (EL b)
 |[],_=>Hb a
 |c::e,d=>by
  unfold EL;split;.grind
  .exact fC P
def jn(b:D){a:K}(c: -1000000000<=a/\a<=1000000000):BN b (Ed a):=by show BY a _ 1000000000=L;unfold BY;grind
set_option maxHeartbeats 4000000 in
theorem AdA (a:D) (d:B0) (b c:M):BN a (Kw d b c):=by
 unfold Kw Oj N1;repeat' split
 all_goals first|exact OV a (by omega)|exact fT a _|exact Aek a _|skip
def Acw{a:D}{d:B0}{b:C _}(c:∀e∈b,BN a e):BN a (Iu d b):=by
 unfold Iu;split;.exact fC c
 .exact AdA a _ _ _
def re{a:D}{b:M}(c:BN a b):BN a (MS b):=by
 unfold MS
 repeat' split
 all_goals first|exact OV a (by omega)|exact fT a _|exact c
structure Tf(a:C AG)(b:EW):Prop where
 E8:Gg (BA a b).m
 AX:a.l<=(BA a b).m.l
 Dv:BN (BA a b).m.l (BA a b).v
 sub:∀d∈DC (BA a b).m,d∈DC a\/(b.op=3/\d=b.Cq)
 JN:(DC a).Nodup->b.Cq∉DC a\/b.op≠3->(DC (BA a b).m).Nodup
 Gx:∀c∈(BA a b).Gx,b.op=2/\c.Cq∈DC a/\c.v=b.c
 mS:(DC a).Nodup->((BA a b).Gx.m (λc=>c.Cq)).Nodup/\∀c∈(BA a b).Gx,c.Cq∉DC (BA a b).m
def Me{a:C _}(c:Gg a){b:EW}(e:(BA a b).m=a)(f:BN a.l (BA a b).v)(g:(BA a b).Gx=[]):Tf a b where
 E8:=by grind
 AX:=by grind
 Dv:=by grind
 sub:=λj h=>P
 JN:=λd _=>by grind
 Gx:=λk i=>by grind
 mS:=λ_=>by grind
def nY{a:C AG}(d:Gg a){c:EW}(u:c.op=1)(t:BN a.l c.a):Tf a c:=by
 have b:BA a c=⟨(C7 a c.a).1,(C7 a c.a).2.1,[],(C7 a c.a).2.2⟩:=by unfold BA;grind
 unfold C7 at b;by_cases g:c.a.Ai=5;.rw[Af g]at b;exact Me d (by grind) (by grind) (by grind)
 rw[Ad g]at b;by_cases h:c.a.Ai≠1;.rw[Af h]at b;exact Me d (by grind) (by rw[b];exact OV _ (by omega)) (by grind)
 rw[Ad h]at b;by_cases i:BY c.a.n 0 100=Ac;.rw[Af i]at b;exact Me d (by grind) (by rw[b];exact OV _ (by omega)) (by grind)
 rw[Ad i]at b;by_cases j:a.l=400;.rw[Af j]at b;exact Me d (by grind) (by rw[b];exact Hb _) (by grind)
 rw[Ad j]at b;let⟨r,n,s⟩:=MU.1 d
 have o:DC (a++[⟨Bv c.a.n.n AK,[]⟩])=DC a:=by rw[Adq];show DC a++(List.flatMap _ [_])=_;grind
 have l:(a++[(⟨Bv c.a.n.n AK,[]⟩:AG)]).l=a.l+1:=by grind
 refine⟨?_,by grind,?_,?_,?_,?_,?_⟩
 .rw[b];refine MU.2 ⟨by grind,λf q=> ?_,by show BZ (a++_)<=_;rw[PJ,o,<-PJ];grind⟩;show _/\OH (a++_).l f=L;rw[l];rcases AiM.1 q with k|k;.have:=n f k;refine⟨this.1,Nb.2 ⟨λm e=>((Nb.1 this.2).1 m e).up (by omega),(Nb.1 this.2).2⟩⟩
  .have:f=⟨Bv c.a.n.n AK,[]⟩:=by grind
   subst this;refine⟨?_,Nb.2 ⟨λm e=> ?_,P⟩⟩
   .rw[AjD];have:BY c.a.n 0 100=L:=by grind
    unfold BY at this;grind
   .rw[(List.mem_replicate.1 e).2];exact Hb _
 .rw[b];show GP (DB a.l) (a++_).l=L;rw[l];show BY a.l 0 ((a.l+1)-1)=L;unfold BY;grind
 .intro v p;rw[b]at p;exact .i (by grind)
 .grind
 .grind
 .intro _;rw[b];grind
def Aei{a:C _}(c:Gg a){b:EW}(i:b.op=4)(g:BN a.l b.a):Tf a b:=by
 have d:BA a b=⟨a,HI a b.a,[],0⟩:=by unfold BA;grind
 refine Me c (by grind) ?_ (by grind);rw[d];unfold HI;split;.grind
 .split
  .refine jn _ ?_;split
   .rename_i f e;let⟨j,_,h⟩:=OG e
    have:=((MU.1 c).2.1 f P).1;omega
   omega
  .exact OV _ (by omega)
def Q6{b:C _}{c:M}(a:BN b.l c):Ll b c:=λd=>by
 unfold BN GP BY at a;rw[Ad (by omega),Ad (by omega),Ad (by omega),Af d]at a;simp only[Aie,Ain]at a;let⟨e,f⟩:=Bo (b:=b) (a:=c.n.n) (by omega)
 exact⟨e,by unfold G_;grind⟩
def Ado{c:C AG}(d:Gg c){a:EW}(S:a.op=3)(x:BN c.l a.a)(Q:BN c.l a.b):Tf c a:=by
 have b:BA c a=⟨(Ds c a.a a.b a.Cq).1,(Ds c a.a a.b a.Cq).2.1,[],(Ds c a.a a.b a.Cq).2.2⟩:=by unfold BA;grind
 unfold Ds at b;by_cases k:a.a.Ai=5;.rw[Af k]at b;exact Me d (by grind) (by grind) (by grind)
 rw[Ad k]at b;by_cases l:a.b.Ai=5;.rw[Af l]at b;exact Me d (by grind) (by grind) (by grind)
 rw[Ad l]at b;by_cases m:a.a.Ai=3;.rw[Af m]at b;exact Me d (by grind) (by rw[b];exact OV _ (by omega)) (by grind)
 rw[Ad m]at b;by_cases n:a.a.Ai≠4\/a.b.Ai≠1;.rw[Af n]at b;exact Me d (by grind) (by rw[b];exact OV _ (by omega)) (by grind)
 rw[Ad n]at b;by_cases g:Dp c a.a a.b=Ac;.rw[Af g]at b;exact Me d (by grind) (by rw[b];exact OV _ (by omega)) (by grind)
 rw[Ad g]at b;have g:Dp c a.a a.b=L:=by grind
 let⟨j,T,e,U,q,f,v,r,w,M,N,P⟩:=O1 (Q6 x) g
 let⟨I,u,J⟩:=MU.1 d
 have p:=u e (Ail f);have G:=Nb.1 p.2;by_cases h:(FI c a.a a.b).Ai≠0;.rw[Af h]at b;exact Me d (by grind) (by grind) (by grind)
 rw[Ad h]at b;by_cases o:6000<=BZ c;.rw[Af o]at b;exact Me d (by grind) (by rw[b];exact Hb _) (by grind)
 rw[Ad o]at b;have t:Jk c a.a.n (λe=>⟨e.I,e.AV++[⟨a.b.n,a.Cq⟩]⟩)=c.set j ⟨e.I,e.AV++[⟨a.b.n,a.Cq⟩]⟩:=by unfold Jk;grind
 rw[t]at b;let⟨H,z,E⟩:=eb f
 have s:(DC (c.set j ⟨e.I,e.AV++[⟨a.b.n,a.Cq⟩]⟩)).Perm (a.Cq::DC c):=by refine(E _).trans ?_;rw[AiZ,Ajr];refine List.Perm.trans ?_ (List.Perm.cons _ z.symm);grind
 have R:=(Aid.1 r).1;refine⟨?_,by grind,by rw[b];exact Hb _,?_,?_,?_,?_⟩
 .rw[b];refine iZ d f p.1 (Nb.2 ⟨G.1,λF y=> ?_⟩) ?_
  .rcases AiM.1 y with i|i;.grind
   .have:F=⟨a.b.n,a.Cq⟩:=by grind
    subst this;refine⟨by grind,by grind,?_⟩;show((e.I[a.b.n.n]?).g AK).Ai=0;rw[v,Aif,r];rw[w]at h;grind
  .have:=s.length_eq;rw[<-PJ,AiD,<-PJ]at this;omega
 .grind
 .intro q f;rw[b];refine s.nodup_iff.2 (AjM.2 ⟨?_,q⟩);rcases f with i|i;.grind
  .grind
 .grind
 .intro _;rw[b];grind
def Aeq(a:K)(d:M)(e:C BU):(e.m λf=>f.Cq).Perm (((Fj a d e).m λb=>b.Cq)++(Fg a e).m λf=>f.Cq):=by
 induction e with
 |nil=>exact List.Perm.refl _
 |cons c b i=>
  have g:Fj a d (c::b)=(if c.Cy=a then[⟨c.Cq,d⟩]else[])++Fj a d b:=by unfold Fj;grind
  have h:Fg a (c::b)=(if c.Cy=a then[]else[c])++Fg a b:=by unfold Fg;grind
  grind
def ng{b:C AG}(g:Gg b){a:EW}(u:a.op=2)(t:BN b.l a.a)(Q:BN b.l a.c)(R:(BA b a).e=0):Tf b a:=by
 have d:BA b a=⟨(CD b a.a a.b a.c).1,Nd (CD b a.a a.b a.c).2.2,(CD b a.a a.b a.c).2.1,(CD b a.a a.b a.c).2.2⟩:=by unfold BA;grind
 have z:BN b.l (Nd (CD b a.a a.b a.c).2.2):=by unfold Nd;split<;>rfl
 generalize Nd (CD b a.a a.b a.c).2.2=W at d z;unfold CD at d;by_cases e:Dp b a.a a.b=Ac;.simp only[Af e]at d;exact Me g (by grind) (by grind) (by grind)
 simp only[Ad e]at d;have e:Dp b a.a a.b=L:=by grind
 let⟨k,f,c,X,H,h,I,r,J,M,N,s⟩:=O1 (Q6 t) e
 let⟨F,p,G⟩:=MU.1 g
 have y:=Nb.1 (p c (Ail h)).2;by_cases n:(FI b a.a a.b).Ai≠0;.grind
 simp only[Ad n]at d;have o:Jk b a.a.n (λc=>⟨c.I.set a.b.n.n a.c,Fg a.b.n c.AV⟩)=b.set k ⟨c.I.set f a.c,Fg a.b.n c.AV⟩:=by unfold Jk;grind
 rw[o,s]at d;simp only[]at d;let⟨E,w,U⟩:=eb h
 have x:(DC b).Perm (((Fj a.b.n a.c c.AV).m λm=>m.Cq)++DC (b.set k ⟨c.I.set f a.c,Fg a.b.n c.AV⟩)):=by refine w.trans ?_;refine(List.Perm.append_right _ (Aeq a.b.n a.c c.AV)).trans ?_;grind
 have S:=(Aid.1 r).1;refine⟨?_,by grind,by grind,?_,?_,?_,?_⟩
 .rw[d];refine iZ g h (by grind) (Nb.2 ⟨λV v=> ?_,λj i=> ?_⟩) ?_
  .rcases Akc v with q|q;.grind
   .grind
  .have i:=Ajy.1 i;have:=y.2 j i.1;have T:j.Cy≠f:=by grind
   refine⟨this.1,by grind,?_⟩;show(((c.I.set f a.c)[j.Cy.n]?).g AK).Ai=0;rw[AiU (by omega)];grind
  .have:=x.length_eq;rw[<-PJ,Aio,<-PJ]at this;omega
 .grind
 .grind
 .intro m l;rw[d]at l;refine⟨u,P,?_⟩;unfold Fj at l;grind
 grind
structure Fc(b c:Ah)(e:D->D->Prop):Prop where
 AX:b.T.l<=c.T.l
 round:c.round=b.round
 BG:∀a,a<b.T.l->D4 (b.at a) (c.at a)
 Av:∀a,a<b.T.l->HY (b.at a) (c.at a)
 RW:∀a d,a<b.T.l->¬e a d->BW (c.at a) d=BW (b.at a) d
def Fc.refl(a:Ah)(b:D->D->Prop):Fc a a b:=⟨Om,B,λ_ _=>D4.refl _,λ_ _=>HY.refl _,Om⟩
def Fc.AQ{f g h:Ah}{e:D->D->Prop}(a:Fc f g e)(d:Fc g h e):Fc f h e:=
 ⟨AiN a.AX d.AX,d.round.t a.round,λc b=>(a.BG c b).AQ (d.BG c (Aik b a.AX)),λc b=>(a.Av c b).AQ (d.Av c (Aik b a.AX)),λc j b i=>(d.RW c j (Aik b a.AX) i).t (a.RW c j b i)⟩
def Fc.sub{f g:Ah}{d e:D->D->Prop}(a:Fc f g d)(i:∀b c,d b c->e b c):Fc f g e:=⟨a.AX,a.round,a.BG,a.Av,λb c h j=>a.RW b c h P⟩
def D_.C0{b:Ah}{e:AP}(a:D_ b c e){g:D->D->Prop}(j:∀d,¬g c d->BW e d=BW (b.at c) d):Fc b (b.AM c e) g where
 AX:=by rw[D0];grind
 round:=B
 BG:=λi h=>by
  rw[Ee a.hi];split;.rename_i f;subst f;exact a.BG
  .exact D4.refl _
 Av:=λi h=>by
  rw[Ee a.hi];split;.rename_i f;subst f;exact a.Av
  .exact HY.refl _
 RW:=λi d h k=>by rw[Ee a.hi];grind
def By.op{e:C Ab}{b:Ah}(h:Bn e b)(a:By b i d c):Jh e (b.at d) c=8\/Jh e (b.at d) c=9:=by
 let⟨m,l,n,o,g,f,_⟩:=h.up a.1 (by rw[a.2.1];omega)
 have j:m=d:=by have:=a.2.1;have:=f.2.1;omega
 have k:l=c:=by have:=a.2.2;have:=f.2.2;omega
 subst j;subst k;rw[g.Jh];exact g.op
structure Rt(a:Ah)(b c d:D)(e:M):Prop where
 hi:b<a.T.l
 ok:BN a.Ae.l e
 La:(Bg (a.at b) c d).Ai=0
 AI:0<BW (a.at b) c
 E9:∀f,¬By a f b c
 AV:d=0->((1000*b+c:D):K)∈DC a.Ae->e.Ai=0
def Rt.AM{q:C Ab}{d:Ah}(j:Bn q d){i:M}(h:Rt d c e f i):D_ d c ((d.at c).Aw e f i)where
 hi:=h.hi
 BG:=⟨B,B,B,B,B,S0 _ _ _ _,B,B⟩
 next:=B
 Av:=⟨λ_ _=>B,λg b r=>I1 λa=>by obtain⟨rfl,rfl⟩:=a;exact r h.La⟩
 vp:=j.W.vp c
 vo:=λg b=>by
  show BN _ (EQ (C5 (d.at c).AB e f i) g b AK);rcases aL (d.at c).AB e f g b i AK with a|a|a;.rw[a];exact h.ok
  .rw[a];exact j.W.vo c g b
  .rw[a];exact Hb _
 f0:=j.W.f0 c
 fm:=λ_ k=>k
 Ff:=λg k b=>by have:=j.W.Ff c g k b;refine⟨?_,this.2⟩;show(EQ (C5 (d.at c).AB e f i) g b AK).Ai=0;rw[I1 (λa=>by obtain⟨rfl,rfl⟩:=a;have k:BW (d.at c) g=0:=k;have:=h.AI;omega:¬(g=e/\b=f))];exact this.1
 CX:=λn b m l=>by show((EQ (C5 (d.at c).AB e f i) b l AK).Ai=0↔_);rw[I1 (λa=>by obtain⟨rfl,rfl⟩:=a;exact h.E9 n m:¬(b=e/\l=f))];exact(j.W.CX n c b m).2 l
 BS:=j.W.BS c
 AV:=λb p o=>by
  show(EQ (C5 (d.at c).AB e f i) b 0 AK).Ai=0;by_cases a:b=e/\0=f
  .obtain⟨rfl,rfl⟩:=a;have:=h.AV B o;rcases aL (d.at c).AB b 0 b 0 i AK with a|a|a;.grind
   .rw[a];exact h.La
   .rw[a];rfl
  .rw[I1 a];exact(D_.refl j.W h.hi).AV b p o
def Rt.eY{h:C _}(b:Bn h a){f:M}(g:Rt a c d e f):Bn h (a.Aw c d e f)/\Fc a (a.Aw c d e f) (λ_ _=>False):=
 ⟨b.AM (g.AM b),(g.AM b).C0 λi _=>B⟩
def WO{d:Ah}(h:e<d.T.l)(a b c:D)(k:¬(a=e/\b=f/\c=g)):Bg ((d.Aw e f g j).at a) b c=Bg (d.at a) b c:=by
 unfold Ah.Aw;rw[Ee h];split;.rename_i i;subst i;exact I1 Om
 grind
def Ab5{b:Ah}{h:D}(f:c<b.T.l){a:D}:By (b.Aw c g h j) a d e↔By b a d e:=by
 unfold By Ah.Aw;rw[D0,Ee f];by_cases i:a=c;.subst i;rw[Af B];rfl
 grind
def Bn.aa{i:C _}{b:Ah}(a:Bn i b){e:C _}(k:Gg e)(j:b.Ae.l<=e.l)(n:(DC e).Nodup)(m:∀f∈DC e,f∈DC b.Ae\/∃c d:D,c<b.T.l/\d<1000/\f=(1000*c+d:D)/\Jh i (b.at c) d=12/\0<BW (b.at c) d/\(Bg (b.at c) d 0).Ai=0):Bn i ⟨b.T,e,b.round,b.Aq⟩:=⟨{
 sh:=a.W.sh.of B
 E8:=k
 Aq:=a.W.Aq
 vp:=λc h=>(a.W.vp c h).up j
 vo:=λc d h=>(a.W.vo c d h).up j
 p0:=a.W.p0
 f0:=a.W.f0
 Ff:=a.W.Ff
 CX:=a.W.CX
 BS:=a.W.BS
 IU:=a.W.IU
 EO:=a.W.EO
 AV:=λf l=>by
  rcases m f l with g|g;.exact a.W.AV f g
  .exact g
 JN:=n},a.V⟩
structure nB(e:C Ab)(a:Ah)(d:BM)(b c:D):Prop where
 hi:b<a.T.l
 hj:c<1000
 rd:d.Cq=((1000*b+c:D):K)
 op:Jh e (a.at b) c=12
 AI:0<BW (a.at b) c
 La:(Bg (a.at b) c 0).Ai=0
 ok:BN a.Ae.l d.v
 iY:d.Cq∉DC a.Ae
def mX{q:C _}:∀{e:C _}{a:Ah},Bn q a->(e.m λg=>g.Cq).Nodup->(∀g∈e,∃h i,nB q a g h i)->Bn q (e.foldl GW a)/\Fc a (e.foldl GW a) (λ_ _=>False)/\(e.foldl GW a).T.l=a.T.l/\(e.foldl GW a).Ae=a.Ae/\(e.foldl GW a).Aq=a.Aq/\(∀c d,((1000*c+d:D):K)∉e.m (λg=>g.Cq)->d<1000->∀j,Bg ((e.foldl GW a).at c) d j=Bg (a.at c) d j)/\(∀k m o,By (e.foldl GW a) k m o↔By a k m o)
 |[],a,l,_,_=>⟨l,Fc.refl a _,B,B,B,P,P⟩
 |g::e,a,l,t,r=>by
  let⟨h,i,b⟩:=r g P
  let⟨v,p⟩:=(⟨b.hi,b.ok,b.La,b.AI,λk u=>by have:=By.op l u;have:=b.op;omega,λ_ w=>A_ (b.rd▸w) b.iY⟩:Rt a h i 0 g.v).eY l
  rw[Ai9,AjM]at t;have I:(a.Aw h i 0 g.v).T.l=a.T.l:=D0 ..;let⟨x,y,M,z,E,F,G⟩:=mX (e:=e) v P (λJ N=>by
   let⟨c,d,f⟩:=r J P
   refine⟨c,d,by rw[I];exact f.hi,f.hj,f.rd,?_,?_,by rw[WO b.hi c d 0 (λn=>by obtain⟨rfl,rfl,_⟩:=n;exact t.1 (by rw[b.rd,<-f.rd];grind):¬(c=h/\d=i/\0=0))];exact f.La,f.ok,f.iY⟩
   .unfold Jh;rw[TB (p.BG c f.hi)];exact f.op
   .rw[p.RW c d f.hi id];exact f.AI)
  rw[Ajp,(al b.rd b.hj:GW a g=a.Aw h i 0 _)];refine⟨x,p.AQ y,Om,z,E,λc d s H j=> ?_,λk m o=>(G k m o).trans (Ab5 b.hi)⟩;rw[Ai9,Ait]at s;rw[F c d P H j,WO b.hi c d j λn=>s (.i (by rw[b.rd,n.1,n.2.1]))]
def ZY{e:C _}(k:Bn e a)(l:b<a.T.l)(i:Gb e (a.at b) d=L):∃g c j h,DU e g c (a.at b)/\c.Ay[d]? =A j/\(a.at b).AI[d]? =A h/\FB (a.at b) j h=L:=by
 let⟨g,c,f⟩:=k.W.sh.Bw b _ (Cu l)
 unfold Gb at i;rw[f.ha,Aif,f.hb]at i;grind
def ei{g:C _}(e:Bn g a){h:AD}{d:K}(k:(a.at b).AI[c]? =A d)(f:FB (a.at b) h d=L):BW (a.at b) c=0:=by
 have j:=e.W.f0 b c;have i:BW (a.at b) c=d:=by unfold BW;grind
 unfold FB at f;grind
def U3{a:AP}{b:AH}:Gd a b=L↔(A9 a b).Ai≠0:=by unfold Gd A9;grind
def lI{b:AP}{a:AD}{c:K}(d:FB b a c=L)(g:¬(a.op=8\/a.op=9))(f:a.op≠6):∀e∈a.AT,(A9 b e).Ai≠0:=by
 unfold FB at d;by_cases b:c>0;.grind
 .rw[Ad b,Ad g,Ad f]at d;exactλe h=>U3.1 P
def lJ{b:AP}{a:AD}{d:K}(c:FB b a d=L)(e:a.op=8\/a.op=9):(Cd (a.AT.m (A9 b)) 0).Ai≠0:=by
 unfold FB at c;by_cases b:d>0;.grind
 .rw[Ad b,Af e]at c
  cases f:a.AT with
  |nil=>grind
  |cons h g=>rw[f]at c;exact U3.1 c
def AbV{a:M}(b:BN c a)(d:a.Ai≠0):QX a:=by refine⟨?_,d⟩;unfold BN at b;rw[<-R8 a (by omega)]at b;unfold JG at b⊢;grind
def AeW{a:M}(c:BN b a)(d:a.Ai≠0):II a b=L:=by unfold II;rw[Aie];exact⟨by grind,c⟩
def ZD{b:C _}{a:AD}(c:¬(a.op=8\/a.op=9))(d:a.op≠11)(e:1<=a.op/\a.op<=14):1<=C_ b a:=by unfold C_;omega
def cF{m:C Ab}(o:b<a.T.l){h:Ab}{f:AD}(g:DU m n h (a.at b))(k:h.Ay[c]? =A f)(s:d<C_ m f):F1 a b c d:=by
 have r:=(Aid.1 k).1;let⟨e,j⟩:=Bo (b:=(a.at b).AB) (a:=c) (by rw[g.AB];grind)
 have:=g.Aw c f e k j;let⟨q,p⟩:=Bo (b:=e) (a:=d) (by omega)
 exact⟨_,e,q,Cu o,j,p⟩
def AeZ{b:C AG}(f:Gg b){a:EW}(g:a.op=2)(i:BN b.l a.a)(j:BN b.l a.c):(BA b a).Gx.l<1000000/\∀e∈(BA b a).Gx,e.Cq∈DC b:=by
 by_cases c:(BA b a).e=0
 .refine⟨?_,λe l=>((ng f g i j c).Gx e l).2.1⟩;unfold BA;rw[Ad (by omega),Af g];unfold CD;split;.grind
  .split;.grind
   .show List.length (match G_ b a.a.n with|some d=>Fj a.b.n a.c d.AV|none=>[])<1000000;split
    .rename_i d k;let⟨n,_,m⟩:=OG k
     have:=(f.ok.2 d P).2;unfold Fj;grind
    grind
 .have:(BA b a).Gx=[]:=by
   have h:BA b a=⟨(CD b a.a a.b a.c).1,Nd (CD b a.a a.b a.c).2.2,(CD b a.a a.b a.c).2.1,(CD b a.a a.b a.c).2.2⟩:=by unfold BA;grind
   rw[h]at c⊢
   show(CD b _ a.b a.c).2.1=[]
   unfold CD at c⊢
   grind
  grind
def Ae2{e:C Ab}(r:Bj e){c:Ah}(b:Bn e c){k:BM}(o:k.Cq∈DC c.Ae):Ju c k:=by
 let⟨h,i,g,p,q,a,t,u⟩:=b.W.AV _ o
 have:=b.W.sh.AX
 let⟨s,m,f⟩:=b.W.sh.Bw h _ (Cu g)
 refine⟨h,i,q,p,by omega,?_⟩
 unfold Jh at a
 rw[f.BB]at a
 cases d:m.Ay[i]?with
 |none=>rw[d]at a;exact A_ a (by decide)
 |some j=>rw[d]at a;have a:j.op=12:=a;have:=ZD (b:=e) (a:=j) (by omega) (by omega) (by omega);exact cF g f d (by omega)
def Yy{m:CW}(t:Bj m.l){b:Ah}(h:Bn m.l b){k:D}(x:c<b.T.l)(y:Gb m.l (b.at c) k=L):∃u r a w,DU m.l u r (b.at c)/\r.Ay[k]? =A a/\(b.at c).AI[k]? =A w/\FB (b.at c) a w=L/\Th m b ⟨(c:K),(k:K)⟩ c k (b.at c) r a (a.AT.m (A9 (b.at c))):=by
 let⟨u,r,a,w,f,o,S,y⟩:=ZY h x y
 refine⟨u,r,a,w,f,o,S,y,?_⟩;have N:=t.A4 u r f.hb;have g:=N.Ao k a o;have xm:=g.some t;have xq:=(Aid.1 o).1;have xp:=N.Ay;have xe:=h.W.sh.AX;have xh:(a.AT.m (A9 (b.at c))).l=a.AT.l:=by grind
 have X:∀d∈a.AT.m (A9 (b.at c)),BN b.Ae.l d:=λd j=>by obtain⟨M,_,rfl⟩:=AiR.1 j;exact h.W.A9 c M
 have xl:¬(a.op=8\/a.op=9)->a.op≠6->∀d∈a.AT.m (A9 (b.at c)),d.Ai≠0:=λn H d j=>by obtain⟨M,xg,rfl⟩:=AiR.1 j;exact lI y n H M xg
 have xx:¬(a.op=8\/a.op=9)->a.op≠6->∀d∈a.AT.m (A9 (b.at c)),II d b.Ae.l=L:=λn H d j=>AeW P (xl n H d j);have v:∀z,z<a.AT.l->∃d,(a.AT.m (A9 (b.at c)))[z]? =A d/\d∈a.AT.m (A9 (b.at c)):=λz xr=>by
  let⟨d,j⟩:=Bo (b:=a.AT.m (A9 (b.at c))) (a:=z) (by omega)
  grind
 exact{
  hi:=B
  hj:=B
  hc:=Cu x
  ha:=⟨u,f.ha,f.hb⟩
  hn:=o
  hf:=(Aid.1 S).1
  hv:=f.Dj g.AT
  hl:=by omega
  F_:=by omega
  E8:=h.W.E8
  Aq:=h.W.Aq
  cQ:=λn G xd=>⟨{
   AX:=by omega
   SS:=λR=>⟨by rw[xh];exact(g.SS R).1,(g.SS R).2,λd j=>AbV (X d j) P⟩
   KU:=λxb=>by have:=g.KU (by omega);omega
   Xq:=λxb=>P
   rd:=by grind},cF x f o (by have:=ZD (b:=m.l) n G g.op;omega)⟩
  sw:=λxd=>by
   have xc:=g.KU Om;let⟨e,E,V⟩:=v 0 (by omega)
   let⟨p,F,xi⟩:=v 1 (by omega)
   have s:=X e V;have xs:C_ m.l a=2:=by unfold C_;omega
   have xv:(-9223372036854775806<=e.n/\e.n<=9223372036854775807)/\(e.Ai=2->0<=e.n/\e.n<=1):=by
    unfold BN GP BY at s;split at s;.grind
    .split at s;.grind
     .split at s;.grind
      .split at s;.simp only[Aie,Ain]at s;have:=h.W.E8.ok.1;omega
       grind
   have xw:0<=(D1 e p).1/\(D1 e p).1<=1:=by unfold D1;grind
   exact⟨e,p,E,F,Om,Om,cF x f o (by omega)⟩
  st:=λG=>by
   have xo:=g.Xt G;let⟨e,E,V⟩:=v 0 (by omega)
   let⟨p,F,xi⟩:=v 1 (by omega)
   let⟨I,xa,xu⟩:=v 2 (by omega)
   have Q:=AeZ h.W.E8 (a:=⟨2,e,p,I,0⟩) B P P;refine⟨e,p,I,E,F,xa,λJ xt=> ?_,Q.1,λxk xf=>Ae2 t h (Q.2 xk xf)⟩;have:J=e\/J=p\/J=I:=by grind
   rcases this with rfl|rfl|rfl;.grind
   .grind
   .grind
  call:=λn=>by
   let⟨U,T⟩:=Bo (b:=(b.at c).AB) (a:=k) (by rw[f.AB];grind)
   have xn:=f.Aw k a U o T;have xc:=SK t a;let⟨Y,Z,xj,W,_⟩:=g.call n
   exact⟨⟨U,T,by omega⟩,xe,λ_=>⟨Y,Z,xj,W,aW t W⟩⟩}
