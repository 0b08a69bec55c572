/- Part of the proof. -/
import Derived.Test.YtmnfpdedgnfeiaaGreatMbk
set_option linter.all false
noncomputable section
open Option renaming some->A,none->O,getD->Option.g,bind->Option.b
open _root_ renaming rfl->B,List->C,Nat->D,Int->K,if_neg->Ad,if_pos->Af,Option->Aj,Bool->Ak,cond->An,absurd->A_,decide_eq_false->Ba,decide_eq_true->Be
open Bool renaming true->L,false->Ac
open Decidable renaming decide->Au
open List renaming replicate->Bv,length->List.l,map->List.m,take->List.t,drop->List.d,toArray->List.a,flatMap->List.f
open Nat renaming le_refl->C6
open Go.IntKind renaming i64->Go.IntKind.n
open Array renaming toList->Array.l
open Eq renaming trans->Eq.t,symm->Eq.s
open Or renaming inl->Or.i
open Int renaming toNat->Int.n
namespace Go.Proofs.YtmnfpdedgnfeiaaGreat
open Go.Fg
def Bn.MH{d:C _}{b:Ah}(a:Bn d b){f c:K}(e:0<=c/\c<=6000):Bn d ⟨b.T,b.Ae,f,c⟩:=
 ⟨{sh:=a.W.sh.of B,E8:=a.W.E8,Aq:=e,vp:=a.W.vp,vo:=a.W.vo,p0:=a.W.p0,f0:=a.W.f0,Ff:=a.W.Ff,CX:=a.W.CX,BS:=a.W.BS,IU:=a.W.IU,EO:=a.W.EO,AV:=a.W.AV,JN:=a.W.JN},a.V⟩
structure nv(j:C Ab)(c a:Ah)(b d:D):Prop where
 X:Bn j a
 C0:Fc c a (λg h=>g=b/\h=d)
 AX:a.T.l=c.T.l
 Ae:a.Ae=c.Ae
 Aq:a.Aq=c.Aq+1
 Dj:∀e,A9 (a.at b) e=A9 (c.at b) e
 AI:0<BW (a.at b) d
 La:∀f,(Bg (a.at b) d f).Ai=0/\BT (a.at b) d f=E3
 E9:∀i,¬By a i b d
variable{c:D}
def my{q:C Ab}{b:Ah}(g:Bn q b){a:D}(n:a<b.T.l)(E:c<(b.at a).AI.l)(v:BW (b.at a) c=0){e:K}(y:0<e)(G:b.Aq≠6000):nv q b (Bm b ⟨a,c⟩ e) a c:=by
 have p:∀d,BW {b.at a with AI:=(b.at a).AI.set c e} d=if d=c then e else BW (b.at a) d:=λd=>by
  unfold BW;show(((b.at a).AI.set c e)[d]?).g 0=_;by_cases H:d=c;.grind
  .grind
 have m:D_ b a {b.at a with AI:=(b.at a).AI.set c e}:={
  hi:=n
  BG:=⟨B,B,B,B,B,B,Aiv,B⟩
  next:=B
  Av:=⟨λ_ _=>B,λ_ _ _=>B⟩
  vp:=g.W.vp a
  vo:=g.W.vo a
  f0:=λd=>by
   rw[p];split;.omega
   .exact g.W.f0 a d
  fm:=λd k=>by grind
  Ff:=λd k h=>by
   rw[p]at k;split at k;.omega
   .exact g.W.Ff a d k h
  CX:=λj d l=>(g.W.CX j a d l).2
  BS:=g.W.BS a
  AV:=(D_.refl g.W n).AV}
 have w:Bm b ⟨a,c⟩ e=⟨(b.AM a {b.at a with AI:=(b.at a).AI.set c e}).T,b.Ae,b.round,b.Aq+1⟩:=B;have z:=g.W.Aq;have t:∀h,(Bm b ⟨a,c⟩ e).at h=(b.AM a {b.at a with AI:=(b.at a).AI.set c e}).at h:=λh=>B;have o:(Bm b ⟨a,c⟩ e).at a={b.at a with AI:=(b.at a).AI.set c e}:=by rw[t,Hc n]
 have i:=m.C0 (g:=λs u=>s=a/\u=c) P;exact{
  X:=(g.AM m).MH (f:=b.round) (c:=b.Aq+1) (by omega)
  C0:=⟨i.AX,i.round,i.BG,i.Av,i.RW⟩
  AX:=D0 ..
  Ae:=B
  Aq:=B
  Dj:=λx=>by rw[o];rfl
  AI:=by grind
  La:=λh=>by rw[o];exact g.W.Ff a c v h
  E9:=λj l=>by have:=(g.W.CX j a c (m.E9.1 l:By b j a c)).1;omega}
variable{a:Ah}
def Og{b:EW}(c:b.op=1\/b.op=3\/b.op=4):DE a b=if(BA a.Ae b).e≠0 then(a,AK,(BA a.Ae b).e)else(⟨a.T,(BA a.Ae b).m,a.round,a.Aq⟩,(BA a.Ae b).v,0):=by
 unfold DE;have d:(BA a.Ae b).Gx=[]:=by unfold BA;grind
 grind
def Adl{b:C _}{a:EW}(c:a.op=3)(d:a.Cq∉DC b):a.Cq∈DC (BA b a).m->(BA b a).v.Ai=0:=by
 unfold BA;rw[Ad (by omega),Ad (by omega),Af c]
 unfold Ds
 repeat' split
 all_goals first|grind|exactλ_=>B
structure U_(f:C Ab)(b a:Ah)(d e:D)(c:M):Prop where
 X:Bn f a
 T:a.T=b.T
 round:a.round=b.round
 Aq:a.Aq=b.Aq
 ok:BN a.Ae.l c
 La:((1000*d+e:D):K)∈DC a.Ae->c.Ai=0
variable{d:D}
def dq{k:C Ab}(f:Bn k a)(w:c<a.T.l)(x:d<1000)(u:0<BW (a.at c) d)(v:(Bg (a.at c) d 0).Ai=0)(l:((1000*c+d:D):K)∉DC a.Ae){b:EW}(m:b.op=1\/b.op=3\/b.op=4)(j:BN a.Ae.l b.a)(o:BN a.Ae.l b.b)(t:b.op=3->b.Cq=(1000*c+d:D)/\Jh k (a.at c) d=12)(p:(DE a b).2.2=0):U_ k a (DE a b).1 c d (DE a b).2.1:=by
 rw[Og m]at p⊢;by_cases s:(BA a.Ae b).e=0
 .have n:¬(BA a.Ae b).e≠0:=by grind
  rw[Ad n];have e:Tf a.Ae b:=by
   rcases m with g|g|g;.exact nY f.W.E8 g j
   .exact Ado f.W.E8 g j o
   .exact Aei f.W.E8 g j
  refine⟨f.aa e.E8 e.AX (e.JN f.W.JN ?_) (λr h=> ?_),B,B,B,e.Dv,λh=> ?_⟩;.grind
  .rcases e.sub r h with i|⟨i,rfl⟩<;>grind
  .rcases e.sub _ h with i|⟨i,q⟩;.grind
   .rw[q]at h l;exact Adl i l h
 grind
variable{b:D}
def qU{k:C _}{h:Ab}{j:D}{a:AD}(e:Ib k h j a)(l:a.op=1\/a.op=2\/a.op=3){d:M}(m:BN b d):BN b (KF a d):=by
 unfold KF;by_cases i:d.Ai=5;.grind
 .rw[Ad i];by_cases f:a.op=3;.rw[Af f];rfl
  .rw[Ad f];by_cases c:a.op=2;.rw[Af c];rcases e.num c with g|g<;>rw[g]<;>rfl
   .rw[Ad c];exact jn b (e.Cx (by omega))
variable{e:D}
def vx{h:C Ab}{b:Ah}(i:Bn h b)(m:e<b.T.l)(n:d<1000)(k:0<BW (b.at e) d)(l:(Bg (b.at e) d 0).Ai=0)(j:((1000*e+d:D):K)∉DC b.Ae){x:Ab}{a:AD}(q:Ib h x d a)(I:Jh h (b.at e) d=a.op)(H:¬(a.op=8\/a.op=9))(F:a.op≠11)(G:a.op≠5){f:C M}(E:∀g∈f,BN b.Ae.l g)(c:(CV b ⟨e,d⟩ a f).2.2=0):U_ h b (CV b ⟨e,d⟩ a f).1 e d (CV b ⟨e,d⟩ a f).2.1:=by
 have N:∀o,BN b.Ae.l (Cd f o):=λo=>by
  unfold Cd
  cases w:f[o]?with
  |none=>exact Hb _
  |some g=>grind
 have p:∀g,BN b.Ae.l g->U_ h b b e d g:=λg w=>⟨i,B,B,B,w,P⟩;have J:=q.op;unfold CV at c⊢;by_cases v:a.op=4;.rw[Af v];exact p _ (Acw E)
 rw[Ad v]at c⊢;by_cases y:a.op=6;.grind
 rw[Ad y]at c⊢;by_cases z:a.op=7;.grind
 rw[Ad z]at c⊢;by_cases r:a.op=10;.rw[Af r]at c⊢;exact dq i m n k l j P P (Hb _) P c
 rw[Ad r]at c⊢;by_cases s:a.op=12;.rw[Af s]at c⊢;exact dq i m n k l j P P P P c
 rw[Ad s]at c⊢;by_cases t:a.op=13;.rw[Af t]at c⊢;exact dq i m n k l j P P (Hb _) P c
 rw[Ad t]at c⊢;by_cases u:a.op=14;.rw[Af u];exact p _ (re P)
 rw[Ad u]at c⊢;exact p _ (qU q (by omega) P)
variable{g h:D}
def U_.C0{i:C _}{c d:Ah}{j:M}(b:U_ i c d g h j)(f:D->D->Prop):Fc c d f:=by
 have e:∀a,d.at a=c.at a:=λa=>by unfold Ah.at;rw[b.T]
 exact⟨by rw[b.T];grind,b.round,λa _=>by rw[e];exact D4.refl _,λa _=>by rw[e];exact HY.refl _,P⟩
structure np(g:C Ab)(b a:Ah)(e f:D):Prop where
 X:Bn g a
 C0:Fc b a (λc d=>c=e/\d=f)
 Aq:a.Aq=b.Aq+1
def VN{y:C Ab}(Q:Bj y){u:Ah}(R:Bn y u){n:D}(xl:c<u.T.l)(xm:Gb y (u.at c) n=L){H:K}(xO:0<H)(w:(Ev y u ⟨c,n⟩ H).2=0):np y u (Ev y u ⟨c,n⟩ H).1 c n:=by
 have xa:u.Aq≠6000:=λo=>by unfold Ev at w;grind
 let⟨xq,xr,s,x5,xo,Y,xP,Z,xD⟩:=Yy (m:=⟨y,[],0,.h⟩) Q R xl xm
 rw[bY xD H xa]at w⊢;have xU:=ei R xP Z;have e:=my R xl P xU xO xa;have xn:=Q.A4 xq xr xo.hb;have xe:=xn.Ao n s Y;have x3:=xe.some Q;have yb:=(Aid.1 Y).1;have ya:=xn.Ay;have xQ:n<1000:=by omega
 have G:c<(Bm u ⟨c,n⟩ H).T.l:=by rw[e.AX];grind
 have xd:=xo.BG (e.C0.BG c xl);have xR:Jh y ((Bm u ⟨c,n⟩ H).at c) n=s.op:=by unfold Jh;rw[xd.BB,Y];rfl
 have x9:((1000*c+n:D):K)∉DC u.Ae:=λx=>by
  let⟨I,F,xx,xy,xz,xA,xB,xC⟩:=R.W.AV _ x
  grind
 have yi:∀xb∈s.AT.m (A9 (u.at c)),BN u.Ae.l xb:=λxb xS=>by obtain⟨j,_,rfl⟩:=AiR.1 xS;exact R.W.A9 c j
 have yd:∀h,BN u.Ae.l (Cd (s.AT.m (A9 (u.at c))) h):=λh=>by
  unfold Cd
  cases x:(s.AT.m (A9 (u.at c)))[h]?with
  |none=>exact Hb _
  |some xb=>grind
 have x4:s.op=8\/s.op=9->(Cd (s.AT.m (A9 (u.at c))) 0).Ai≠0:=lJ Z;generalize s.AT.m (A9 (u.at c))=k at*;generalize Bm u ⟨c,n⟩ H=g at*;have xs:=e.Ae;by_cases U:s.op=8\/s.op=9
 .rw[Af U]at w⊢;let⟨I,F,xt,xi,x6,x7,x8⟩:=xe.call U
  unfold H0 at w⊢;by_cases T:(Cd k 0).Ai=5
  .have xH:¬(Cd k 0).Ai≠5:=by grind
   rw[Ad xH]at w⊢;simp only[Aif]at w⊢;let⟨z,X⟩:=Bo (b:=(g.at c).AB) (a:=n) (by rw[xd.AB];grind)
   rw[X,Aiz];have V:∀j h,Bg {g.at c with AB:=(g.at c).AB.set n (z.m λ_=>Cd k 0)} j h=Bg (g.at c) j h\/(j=n/\(Bg {g.at c with AB:=(g.at c).AB.set n (z.m λ_=>Cd k 0)} j h=Cd k 0\/Bg {g.at c with AB:=(g.at c).AB.set n (z.m λ_=>Cd k 0)} j h=AK)):=λj h=>by
    unfold Bg EQ;show(((((g.at c).AB.set n (z.m λ_=>Cd k 0))[j]?).g [])[h]?).g AK=_\/(j=n/\((((((g.at c).AB.set n (z.m λ_=>Cd k 0))[j]?).g [])[h]?).g AK=_\/(((((g.at c).AB.set n (z.m λ_=>Cd k 0))[j]?).g [])[h]?).g AK=_));by_cases o:j=n
    .subst o
     right
     rw[AiF (Aid.1 X).1,Aiz,AiL]
     refine⟨B,?_⟩
     cases z[h]?with
     |none=>grind
     |some xb=>grind
    .grind
   have xp:D_ g c {g.at c with AB:=(g.at c).AB.set n (z.m λ_=>Cd k 0)}:={
    hi:=G
    BG:=⟨B,B,B,B,B,by
     refine Ajc λj=> ?_;show((((g.at c).AB.set n (z.m λ_=>Cd k 0))).m List.length)[j]? =_;rw[AiL,AiL];by_cases o:j=n;.subst o;rw[AiF (Aid.1 X).1,X];show A ((z.m _).l)=A z.l;rw[Aiw]
     .grind,B,B⟩
    next:=B
    Av:=⟨λ_ _=>B,λj h x=>by
     rcases V j h with o|⟨o,_⟩;.grind
     .subst o;exact A_ (e.La h).1 x⟩
    vp:=e.X.W.vp c
    vo:=λj h=>by
     rcases V j h with o|⟨_,o|o⟩;.rw[o];exact e.X.W.vo c j h
     .grind
     .rw[o];exact Hb _
    f0:=e.X.W.f0 c
    fm:=λ_ x=>x
    Ff:=λj x h=>by
     have x:BW (g.at c) j=0:=x;rcases V j h with o|⟨o,_⟩;.rw[o];exact(e.X.W.Ff c j x h)
     .subst o;have:=e.AI;omega
    CX:=λJ j E h=>by
     rcases V j h with o|⟨o,_⟩;.rw[o];exact(e.X.W.CX J c j E).2 h
     .subst o;exact A_ E (e.E9 J)
    BS:=e.X.W.BS c
    AV:=λj xa Z=>by
     rcases V j 0 with o|⟨o,_⟩;.rw[o];exact(D_.refl e.X.W G).AV j xa Z
     .grind}
   exact⟨e.X.AM xp,e.C0.AQ (xp.C0 λ_ _=>B),e.Aq⟩
  .rw[Af (T:(Cd k 0).Ai≠5)]at w⊢;unfold ED at w⊢;by_cases xK:g.T.l=400;.grind
   .rw[Ad xK]at w⊢;rw[xt,Aif,xi]at w⊢;simp only[]at w⊢;have yc:=e.X.W.sh.AX;have xF:=e.X.W.sh.K1 (g:={Dl y F I c n 0 with Ap:=(Bv F.Ap.n AK).set 0 (Cd k 0)}) (u:=g.Ae) (w:=g.round) (q:=g.Aq) (by omega) ⟨I,F,Wy Q xi _ _ _ _ P⟩ ⟨c,n,g.at c,xr,s,B,B,G,(Cu G),⟨xq,xd⟩,Y,U,xt⟩ B (by show 0<=0/\0<=_;omega);have p:=Zq (n:=y) (a:=F) (j:=I) (h:=c) (f:=n) (i:=0) (c:=Cd k 0) (d:=g.Ae.l) B B (by grind) Om (Q.A4 I F xi).Ap.1;generalize({Dl y F I c n 0 with Ap:=(Bv F.Ap.n AK).set 0 (Cd k 0)})=J at*;have xW:(Ah.mk (g.T++[J]) g.Ae g.round g.Aq).T.l=g.T.l+1:=by grind
    refine⟨⟨(e.X.W.K1 xF p G ⟨e.AI,λh=>by rw[(e.La h).2];exact⟨λ_=>B,λ_=>(e.La h).1⟩⟩ (λxN E=>A_ E (e.E9 xN))),λj xw xc h M=> ?_⟩,e.C0.AQ ⟨by grind,B,λh xu=>by rw[FG,Ad (by omega)];exact D4.refl _,λh xu=>by rw[FG,Ad (by omega)];exact HY.refl _,λh j xu _=>by rw[FG,Ad (by omega)]⟩,e.Aq⟩;by_cases o:j=g.T.l;.subst o;rw[FG,Af B,p.As]at M;omega
    .have xT:=h.1;rw[xW]at xT;have xV:By g j xw xc:=by have xj:=h.2.1;have xk:=h.2.2;rw[FG,Ad o]at xj xk;exact⟨by omega,xj,xk⟩
     rw[FG,Ad o]at M;let⟨xG,xj,xk⟩:=e.X.V j xw xc xV M
     exact⟨xG,by grind,by rw[FG,Ad (by omega)];grind⟩
 rw[Ad U]at w⊢;by_cases xh:s.op=11
 .rw[Af xh]at w⊢;unfold DE at w⊢;by_cases xI:(BA g.Ae ⟨2,Cd k 0,Cd k 1,Cd k 2,0⟩).e=0
  .have xJ:¬(BA g.Ae ⟨2,Cd k 0,Cd k 1,Cd k 2,0⟩).e≠0:=by grind
   rw[Ad xJ];have p:=ng e.X.W.E8 (a:=⟨2,Cd k 0,Cd k 1,Cd k 2,0⟩) B (by grind) (by grind) xI;let⟨x1,x2⟩:=p.mS e.X.W.JN
   let⟨xY,xZ,yf,yg,x0,yh,ye⟩:=mX (e.X.aa p.E8 p.AX (p.JN e.X.W.JN P) (λxX xm=>.i (by
    rcases p.sub xX xm with h|⟨h,_⟩;.grind
    .grind))) x1 (λM xv=>by
    have x:=p.Gx M xv;let⟨j,xc,xx,xy,xz,xA,xB,xC⟩:=e.X.W.AV _ x.2.1
    exact⟨j,xc,xx,xy,xz,xA,xB,xC,by rw[x.2.2];exact(show BN g.Ae.l (Cd k 2) by rw[xs];grind).up p.AX,x2 M xv⟩)
   refine⟨xY,e.C0.AQ (Fc.AQ (g:=⟨g.T,(BA g.Ae ⟨2,Cd k 0,Cd k 1,Cd k 2,0⟩).m,g.round,g.Aq⟩) ⟨C6 _,B,λ_ _=>D4.refl _,λ_ _=>HY.refl _,λ_ _ _ _=>B⟩ (xZ.sub P)),?_⟩;exact x0.t e.Aq
  grind
 rw[Ad xh]at w⊢;by_cases T:s.op=5
 .rw[Af T];let⟨xg,xf⟩:=(⟨G,by
   rw[xs];unfold D1;split;.grind
   .split;.grind
    .exact OV _ (by omega),(e.La _).1,e.AI,e.E9,P⟩:Rt g c n (D1 (Cd k 0) (Cd k 1)).1.n (D1 (Cd k 0) (Cd k 1)).2).eY e.X
  exact⟨xg,e.C0.AQ (xf.sub P),e.Aq⟩
 rw[Ad T]at w⊢;by_cases xL:(CV g ⟨c,n⟩ s k).2.2=0
 .have xM:¬(CV g ⟨c,n⟩ s k).2.2≠0:=by grind
  rw[Ad xM];have p:=vx e.X G xQ e.AI (e.La 0).1 (by grind) xe xR U xh T (by grind) xL;have W:∀h,(CV g ⟨c,n⟩ s k).1.at h=g.at h:=λh=>by unfold Ah.at;rw[p.T]
  have xE:Rt (CV g ⟨c,n⟩ s k).1 c n 0 (CV g ⟨c,n⟩ s k).2.1:=⟨by rw[p.T];grind,p.ok,by rw[W];exact(e.La 0).1,by rw[W];exact e.AI,λJ E=>e.E9 J ⟨by have:=E.1;rw[p.T]at this;grind,by rw[<-W];exact E.2.1,by rw[<-W];exact E.2.2⟩,λ_=>p.La⟩;let⟨xg,xf⟩:=xE.eY p.X
  refine⟨xg,e.C0.AQ ((p.C0 _).AQ (xf.sub P)),?_⟩;exact p.Aq.t e.Aq
 grind
def dp{e:C Ab}{b:AP}{f:A8}(g:f∈JS e b c d):∃a:D,f=⟨c,a⟩/\a<d/\Gb e b a=L:=by obtain⟨a,h,rfl⟩:=AiR.1 g;grind
def dn{g:C _}{f:C _}{h:A8}:∀{e:D},h∈Ix g f e->∃(c d:D)(b:AP),h=⟨c,d⟩/\c<e/\f[c]? =A b/\Gb g b d=L
 |0,a=>by cases a
 |e+1,a=>by
  rcases AiM.1 a with a|a
  .let⟨c,d,b,j,k,l⟩:=dn a
   grind
  .cases i:f[e]?with
   |none=>grind
   |some b=>
    rw[i]at a;let⟨d,m,_,n⟩:=dp a
    grind
def Sy{d:C _}{c:Ah}{e:A8}(i:e∈Bp d c):∃a b:D,e=⟨a,b⟩/\a<c.T.l/\Gb d (c.at a) b=L:=by
 let⟨a,b,j,f,g,h,k⟩:=dn i
 exact⟨a,b,f,g,by rw[DM h];grind⟩
def kK(d:C Ab)(b:AP)(c:D):∀a,(JS d b c a).Nodup
 |0=>AjL
 |a+1=>by
  rw[eA];refine Aj8.2 ⟨kK d b c a,?_,λg f h k e=> ?_⟩;.grind
  .subst e;let⟨l,i,j,_⟩:=dp f
   grind
def WB(c:C Ab)(b:C AP):∀a,(Ix c b a).Nodup
 |0=>AjL
 |a+1=>by
  refine Aj8.2 ⟨WB c b a,?_,λi g j d f=> ?_⟩
  .split;.exact kK c _ a _
   grind
  .subst f
   let⟨n,o,e,k,m,_⟩:=dn g
   cases h:b[a]?with
   |none=>grind
   |some e=>
    rw[h]at d;let⟨p,l,_⟩:=dp d
    grind
def vr{a b:AP}(g:HY a b){f:AD}{e:K}(c:FB a f e=L):FB b f e=L:=by
 have h:∀d,Gd a d=L->Gd b d=L:=λd c=>by rw[U3]at c⊢;rw[g.Dv c];grind
 unfold FB at*;grind
def ZZ{g:C Ab}{c f:Ah}{j:D->D->Prop}(m:Bn g c)(e:Fc c f j){a:D}(d:a<c.T.l)(u:¬j a b)(q:Gb g (c.at a) b=L):Gb g (f.at a) b=L:=by
 let⟨v,w,y,o,h,s,x,t⟩:=ZY m d q
 have k:=e.BG a d;let⟨p,r⟩:=Bo (b:=(f.at a).AI) (a:=b) (by rw[k.AI];grind)
 have n:p=o:=by have:=e.RW a b d u;unfold BW at this;grind
 unfold Gb;rw[(h.BG k).ha,Aif,h.hb];simp only[];rw[s,r,n];exact vr (e.Av a d) t
structure ns(d:C Ab)(a b:Ah)(c:D):Prop where
 X:Bn d b
 C0:Fc ⟨a.T,a.Ae,a.round+1,a.Aq⟩ b (λf g=>∃e,e<c/\(Bp d a)[e]? =A ⟨(f:K),(g:K)⟩)
 Aq:b.Aq=a.Aq+(c:K)
def Oh{b:C Ab}(m:Bj b){a:Ah}(e:Bn b a)(r:0<=a.round):∀c,c<=(Bp b a).l->(C1 b (Bp b a) (a.round+1) ⟨a.T,a.Ae,a.round+1,a.Aq⟩ c).2=0->ns b a (C1 b (Bp b a) (a.round+1) ⟨a.T,a.Ae,a.round+1,a.Aq⟩ c).1 c
 |0,_,_=>⟨e.MH e.W.Aq,Fc.refl _ _,by show a.Aq=a.Aq+0;omega⟩
 |c+1,E,g=>by
  let⟨G,h⟩:=Bo (b:=Bp b a) (a:=c) (by omega)
  rw[Yz h]at g⊢;by_cases n:(C1 b (Bp b a) (a.round+1) ⟨a.T,a.Ae,a.round+1,a.Aq⟩ c).2≠0;.grind
  rw[Ad n]at g⊢;have d:=Oh m e r c (by omega) (Aih n);obtain⟨p,q,rfl,o,s⟩:=Sy (Ail h);have v:¬∃k,k<c/\(Bp b a)[k]? =A ⟨p,q⟩:=by
   rintro⟨k,F,t⟩
   have u:(Bp b a).Nodup:=WB b a.T _
   have:=(Akd (by omega) u).1 (t.t h.s)
   omega
  have f:=VN m d.X (Aik o d.C0.AX) (ZZ (e.MH e.W.Aq:Bn b ⟨a.T,a.Ae,a.round+1,a.Aq⟩) d.C0 (a:=p) (b:=q) o v s) (by omega) g;exact⟨f.X,(d.C0.sub P).AQ (f.C0.sub λw x ⟨y,z⟩=>⟨c,by omega,by grind⟩),by rw[f.Aq,d.Aq];omega⟩
def u3{c:C Ab}(b:D):(Eb c a b).1.Ae=a.Ae/\(Eb c a b).1.round=a.round/\(Eb c a b).1.Aq=a.Aq:=by
 have i:∀a,(Cl c a b).1.Ae=a.Ae/\(Cl c a b).1.round=a.round/\(Cl c a b).1.Aq=a.Aq:=λa=>by unfold Cl;simp only[];split<;>exact⟨B,B,B⟩
 have j:∀a,(Et c a b).1.Ae=a.Ae/\(Et c a b).1.round=a.round/\(Et c a b).1.Aq=a.Aq:=λa=>⟨B,B,B⟩;have k:∀a d,(HU a b d).1.Ae=a.Ae/\(HU a b d).1.round=a.round/\(HU a b d).1.Aq=a.Aq:=λa d=>⟨B,B,B⟩;have l:∀a,(Fh c a b).1.Ae=a.Ae/\(Fh c a b).1.round=a.round/\(Fh c a b).1.Aq=a.Aq:=λa=>by
  unfold Fh;simp only[];split
  .split;.grind
   .exact(λa e g f d h=>by
  unfold ED;split;.grind
  .split<;>grind:∀(a:Ah) e g f d h,(ED c a e g f d h).1.Ae=a.Ae/\(ED c a e g f d h).1.round=a.round/\(ED c a e g f d h).1.Aq=a.Aq) a _ _ _ _ _
  .grind
 have m:∀a,(Gp c a b).1.Ae=a.Ae/\(Gp c a b).1.round=a.round/\(Gp c a b).1.Aq=a.Aq:=λa=>⟨B,B,B⟩;have n:∀a,(EM c a b).1.Ae=a.Ae/\(EM c a b).1.round=a.round/\(EM c a b).1.Aq=a.Aq:=λa=>by
  unfold EM;simp only[];split;.grind
  .split;.grind
   .split;.grind
    .grind
 unfold Eb;simp only[];split<;>grind
def lc{c:C _}{a:Ah}:∀b,(Cb c a b).1.Ae=a.Ae/\(Cb c a b).1.round=a.round/\(Cb c a b).1.Aq=a.Aq
 |0=>⟨B,B,B⟩
 |b+1=>by
  have f:=lc (c:=c) (a:=a) b;rw[PB];split;.grind
  .have d:=u3 (c:=c) (a:=(Cb c a b).1) b;grind
def i3{d:C _}{f:D}:∀{g:D}{a:Ah}{c:Ah×K},He d f g a=A c->c.1.Ae=a.Ae/\c.1.round=a.round/\c.1.Aq=a.Aq
 |0,a,c,b=>by cases b
 |g+1,a,c,b=>by
  have h:=lc (c:=d) (a:=a) f;unfold He at b;split at b;.grind
  .split at b;.have:=i3 b;grind
   grind
variable{f:D}
def T2{e:C Ab}{b:Ah×K}(c:Hf e f g a=A b):b.1.Ae=a.Ae/\b.1.round=a.round/\b.1.Aq=a.Aq:=by
 unfold Hf at c
 cases d:He e f g a with
 |none=>grind
 |some h=>rw[d]at c;have:=i3 d;grind
structure GI(b:C Ab)(a:Ah):Prop where
 X:Bn b a
 r0:0<=a.round
 rf:a.round<=a.Aq
 F_:1<=a.T.l
def dD{c:C _}(f:Bj c){i:Ah}(j:Bn c i):∀b∈i.T,Rq c b:=λb l=>by
 let⟨q,n⟩:=Ajh.1 l
 let⟨g,h,a⟩:=j.W.sh.Bw q b n
 have d:=f.A4 g h a.hb;have:=d.Ay;refine⟨g,h,a.ha,a.hb,a.AI,by omega,λs p=> ?_⟩;let⟨r,o⟩:=Ajh.1 p
 have e:=d.Ao r s o;have t:=e.some f;exact⟨by omega,λk m=>a.Dv (e.AT k m),P⟩
variable{k l:D}
def W3{b:C Ab}(g:Bj b)(d:GI b a)(p:(Bp b a).l≠0){f:Ah×K}(c:KS b k l a=A f)(m:f.2=0):GI b f.1:=by
 unfold KS at c;simp only[]at c;by_cases h:(C1 b (Bp b a) (a.round+1) ⟨a.T,a.Ae,a.round+1,a.Aq⟩ (Bp b a).l).2=0;.rw[Ad (λj=>j h:¬(C1 b _ _ _ _).2≠0)]at c;have e:=Oh g d.X d.r0 _ Om h;have i:=T2 c;have n:f.1.round=a.round+1:=i.2.1.t e.C0.round;have o:f.1.Aq=a.Aq+(Bp b a).l:=i.2.2.t e.Aq;have:=d.r0;have:=d.rf;exact⟨cD g e.X c,by omega,by omega,AiN (AiN d.F_ (e.C0.AX:a.T.l<=_)) (cB g e.X.W.sh c).1.AX⟩
 grind
def em{c:CW}(d:Bj c.l)(w:D):P4 c w (GI c.l)where
 OE:=λb a=>a.X.W.sh
 Ay:=λb a=>dD d a.X
 round:=λb a=>⟨a.r0,by have:=a.rf;have:=a.X.W.Aq;omega⟩
 KI:=λb a n I g f=>by
  have F:=(Aid.1 g).1;have e:=Oh d a.X a.r0 n (by omega) f;obtain⟨h,k,rfl,m,u⟩:=Sy (Ail g);have y:¬∃l,l<n/\(Bp c.l b)[l]? =A ⟨h,k⟩:=by
   rintro⟨l,G,v⟩
   have x:(Bp c.l b).Nodup:=WB c.l b.T _
   have:=(Akd (by omega) x).1 (v.t g.s)
   omega
  let⟨z,q,o,E,_,_,_,_,p⟩:=Yy d e.X (Aik m e.C0.AX) (ZZ (a.X.MH a.X.W.Aq:Bn c.l ⟨b.T,b.Ae,b.round+1,b.Aq⟩) e.C0 (a:=h) (b:=k) m y u)
  exact⟨e.C0.round,h,k,_,q,o,_,p⟩
 QL:=λb a f=>(Oh d a.X a.r0 _ Om f).X.W.sh
 C0:=λb o H a t r s=>W3 d a t r s
def lT{a:D}{e:Ak}(f:b+d<=a):BN a (Fr b c d e):=by
 unfold Fr;split;.show BY (b+c) 0 (a-1)=L;unfold BY;simp only[Aie,Ain];omega
 .split<;>rfl
def jX{g i:D}{f:Ak}{d:AG}:∀{c:C _}{b:D},d∈JL g i f b c->d.AV=[]/\∃(e:K)(h:D),e∈c/\d.I=[Ed e,Fr g h i f]
 |[],b,a=>by cases a
 |j::c,b,a=>by
  rcases Ait.1 a with rfl|a;.exact⟨B,j,_,P,B⟩
  .let⟨k,e,h,l,m⟩:=jX a
   grind
structure Bi(a:C AG×C M):Prop where
 st:∀c∈a.1,c.AV=[]/\c.I.l<=100/\∀b∈c.I,BN a.1.l b
 vs:∀b∈a.2,BN a.1.l b
def Bi.C0{b:C _×C _}(f:Bi b){a:C K×Ak}(i:a.1.all JE=L):Bi (OU b a):=by
 have g:(OU b a).1.l=b.1.l+a.1.l:=by show(b.1++JL _ _ _ _ _).l=_;rw[Aio,Wm]
 refine⟨λo m=> ?_,λc e=> ?_⟩
 .rw[g];rcases AiM.1 m with d|d;.have:=f.st o d;exact⟨P,Om,λc e=>(this.2.2 c e).up (by omega)⟩
  .let⟨j,h,n,k,l⟩:=jX d
   refine⟨j,by grind,λc e=> ?_⟩;rw[l]at e;have:c=Ed h\/c=Fr b.1.l n a.1.l a.2:=by grind
   rcases this with rfl|rfl;.exact AiP.1 i h k
   .exact lT Om
 .rw[g];rcases AiM.1 e with d|d;.exact(f.vs c d).up (by omega)
  .have:c=Fr b.1.l 0 a.1.l a.2:=by grind
   subst this;exact lT (c:=0) Om
def fO:∀{b:C (C K×Ak)}{a:C AG×C M},Bi a->(∀d∈b,d.1.all JE=L)->Bi (b.foldl OU a)
 |[],a,c,_=>c
 |d::b,a,c,e=>fO (b:=b) (a:=OU a d) (c.C0 P) P
def Adr{a:C AG}(c:∀b∈a,b.AV=[]):DC a=[]:=by
 unfold DC
 induction a with
 |nil=>rfl
 |cons b e d=>grind
def a4{a:AS}(l:a.l.l=a.BO.l)(f:(B1 a.l a.BO).2.2=0):Gg (B1 a.l a.BO).1/\DC (B1 a.l a.BO).1=[]/\∀p∈(B1 a.l a.BO).2.1,BN (B1 a.l a.BO).1.l p:=by
 unfold B1 at f⊢;rw[Ad (by omega)]at f⊢;by_cases e:(a.l.all λg=>g.all JE)=Ac;.grind
 rw[Ad e]at f⊢;by_cases k:400<El a.l;.grind
 rw[Ad k];have e:(a.l.all λg=>g.all JE)=L:=by grind
 have b:Bi (K3 (a.l.zip a.BO)):=fO ⟨P,P⟩ λo m=>AiP.1 e o.1 (List.of_mem_zip m).1;have j:=Vs (b:=a.l) (c:=a.BO) (a:=a.l.l) Om l;rw[AiX (by grind),AiX Om]at j;have h:=Adr λd c=>(b.st d c).1;refine⟨MU.2 ⟨by grind,λd c=>⟨(b.st d c).2.1,Nb.2 ⟨(b.st d c).2.2,λq n=>by rw[(b.st d c).1]at n;grind⟩⟩,?_⟩,h,b.vs⟩;show BZ (K3 _).1<=6000;rw[PJ,h];grind
def Xk{e:C Ab}(t:Bj e){b:AS}(m:I2 (Il e) b=0)(n:(B1 b.l b.BO).2.2=0):Bn e (FY e b):=by
 let⟨v,w,y,U,E,o,u,J⟩:=ai t m n
 let⟨M,N,Q,R⟩:=TF m
 let⟨s,I,X⟩:=a4 (a:=b) (by omega) n
 have g:(FY e b).at 0={Dl e w v (-1) (-1) 0 with Ap:=Di::(B1 b.l b.BO).2.1}:=by unfold FY;rw[E,y];rfl
 have l:∀a,1<=a->(FY e b).at a=Qi:=λa o=>Nk o;have F:∀f h c,¬By (FY e b) f h c:=λf h c j=>by
  have k:f<1:=j.1;have z:f=0:=by omega
  subst z;have:=j.2.1;rw[g]at this;have this:(-1:K)=(h:K):=this;omega
 have G:∀a d,BN (B1 b.l b.BO).1.l (BQ ((FY e b).at a) d):=λa d=>by
  by_cases i:1<=a;.rw[l a i];exact Hb _
  .have:a=0:=by omega
   subst this
   rw[g]
   show BN _ (((Di::(B1 b.l b.BO).2.1)[d]?).g AK)
   cases d with
   |zero=>rfl
   |succ d=>
    show BN _ (((B1 b.l b.BO).2.1[d]?).g AK)
    cases V:(B1 b.l b.BO).2.1[d]?with
    |none=>exact Hb _
    |some W=>grind
 have r:∀a c d,Bg ((FY e b).at a) c d=AK:=λa c d=>by
  by_cases i:1<=a;.rw[l a i];rfl
  .have:a=0:=by omega
   subst this;rw[g];exact Tv _ _ _ _ _
 have Y:∀a c d,BT ((FY e b).at a) c d=E3:=λa c d=>by
  by_cases i:1<=a;.rw[l a i];rfl
  .have:a=0:=by omega
   subst this;rw[g];exact Tv _ _ _ _ _
 have T:∀a c,BW ((FY e b).at a) c=0:=λa c=>by
  by_cases i:1<=a;.rw[l a i];rfl
  .have:a=0:=by omega
   subst this;rw[g];exact SV _ _ _
 exact⟨{
  sh:=u
  E8:=s
  Aq:=⟨AjN 0,by show 0<=6000;omega⟩
  vp:=G
  vo:=λa c d=>by rw[r];exact Hb _
  p0:=λa k=>by
   have k:a<1:=k;have:a=0:=by omega
   subst this;rw[g];show 3≠0;omega
  f0:=λa c=>by grind
  Ff:=λa c _ d=>⟨by rw[r];rfl,P⟩
  CX:=λf h c j=>P
  BS:=λa c d=>P
  IU:=λf S h c j=>P
  EO:=λa k p=>by
   have k:a<1:=k;have:a=0:=by omega
   subst this;rw[g]at p;exact A_ B p
  AV:=λH q=>by have q:H∈DC (B1 b.l b.BO).1:=q;grind
  JN:=by show(DC (B1 b.l b.BO).1).Nodup;rw[I];grind},λf h c j=>A_ j (F f h c)⟩
def NN{b:C Ab}{m:D}{c:AS}(k:DR b=0->Bj b){f:Ah×K}(a:HH b l m c=A f)(n:f.2=0):DR b=0/\GI b f.1:=by
 unfold HH at a;by_cases h:DR b=0
 .rw[Ad Om]at a;by_cases i:I2 (Il b) c=0
  .rw[Ad Om]at a;by_cases j:(B1 c.l c.BO).2.2=0;.rw[Ad Om]at a;have d:=k h;have g:=Xk d i j;have e:=T2 a;exact⟨h,cD d g a,by rw[e.2.1];exact AjN 0,by rw[e.2.1,e.2.2];exact AjN 0,(cB d g.W.sh a).1.AX⟩
   grind
  grind
 grind
def lZ{b:C Ab}(j:Bj b){g h:D}:∀{f:D}{c:Ah}{d:Ah×K},GI b c->Iy b g h f c=A d->d.2=0->GI b d.1
 |0,c,d,i,a,_=>by cases a
 |f+1,c,d,i,a,n=>by
  unfold Iy at a;by_cases k:(Bp b c).l=0;.grind
  .rw[Ad k]at a
   cases l:KS b g h c with
   |none=>grind
   |some e=>
    rw[l]at a;have a:(if e.2≠0 then A e else Iy b g h f e.1)=A d:=a;by_cases m:e.2=0;.rw[Ad Om]at a;exact lZ j (W3 j i k l m) a n
    grind
def Yu{a:C _}{i:AS}(m:DR a=0->Bj a){c:Ah×K}(b:F7 a d e h i=A c)(l:c.2=0):Bj a/\GI a c.1:=by
 unfold F7 at b
 cases g:HH a d e i with
 |none=>grind
 |some f=>
  rw[g]at b;have b:(if f.2≠0 then A f else Iy a d e h _)=A c:=b;by_cases k:f.2=0
  .rw[Ad Om]at b;let⟨n,j⟩:=NN m g k
   exact⟨P,lZ P j b l⟩
  grind
def Z2{c:C Ab}(s:CA c){w:D}(t:k=400)(g:AS)(p:g.l.l<=2000000)(q:El g.l<=100000000){e:Ah×K}(h:F7 c k l w g=A e):A2 8 [Z Ab.c c,.S (AS.c g)] (.AC [.S (Cv.c (Cj c e).1),.n (Cj c e).2]):=by
 have m:DR c=0->Bj c:=λj=>GU j;refine g9 s t g p q (j:=λb=>Bj c/\GI c b) (λn r x=> ?_) (λe h f=> ?_) h (λf=> ?_)
 .subst r;have d:=λi=>em (c:=n) i k;exact{
   OE:=λb a=>(d a.1).OE b a.2
   Ay:=λb a=>(d a.1).Ay b a.2
   round:=λb a=>(d a.1).round b a.2
   KI:=λb a=>(d a.1).KI b a.2
   QL:=λb a=>(d a.1).QL b a.2
   C0:=λb l e a u j f=>⟨a.1,(d a.1).C0 b l e a.2 u j f⟩}
 .let⟨y,a⟩:=NN m h f
  grind
 .let⟨i,a⟩:=Yu m h f
  refine⟨a.X.W.sh,i,a.X.W.E8,a.F_,λz v=> ?_⟩;obtain⟨o,_,rfl⟩:=AiR.1 v;exact a.X.W.A9 0 o
def Fa{a:Type}(b:a->D)(c:C a):D:=(c.m b).sum
def U1{d:Type}(a:d->D)(c:d)(b:C _):Fa a (c::b)=a c+Fa a b:=by unfold Fa;grind
def Xn{g:Type}(c:g->D):∀{a:C _}{d:D}{e:g}(b:g),a[d]? =A e->Fa c (a.set d b)+c e=Fa c a+c b
 |[],d,e,b,f=>by grind
 |h::a,0,e,b,f=>by cases f;rw[AjX,U1,U1];omega
 |h::a,d+1,e,b,f=>by have:=Xn c (a:=a) (d:=d) b (by simpa using f);rw[List.set_cons_succ,U1,U1];omega
def AeL{d:Type}(a:d->D)(b c:C _):Fa a (b++c)=Fa a b+Fa a c:=by unfold Fa;grind
def Xm{i:Type}{b:i->D}{d:D}:∀{a:C _},(∀c∈a,b c<=d)->Fa b a<=d*a.l
 |[],_=>AiO _
 |g::a,e=>by have j:=Xm (b:=b) (a:=a) λc h=>e c (Ai1 _ h);have k:=e g P;rw[U1,AiD,Nat.mul_succ];omega
def M4(a:M):D:=if a.Ai=0 then 1 else 0
def LZ(a:BC):D:=if a.is=L then 0 else 1
def JM(a:AP):D:=Fa M4 a.Ap+Fa (Fa LZ) a.A5
def mu(b:D)(a:Ah):D:=Fa JM a.T+b*(400-a.T.l)
def DP(a b:D)(c:Ak):Prop:=b+(if c=L then 1 else 0)<=a
def DP.refl(a:D):DP a a Ac:=by unfold DP;simp
def DP.AQ{a:D}{d e:Ak}(f:DP a b d)(g:DP b c e):DP a c (d||e):=by unfold DP at*;grind
def DP.mZ{a:D}{d e:Ak}(f:DP a b d)(g:DP b c e):DP a c (e||d):=by rw[Bool.or_comm];exact f.AQ g
def DP.le{a:D}{d:Ak}(c:DP a b d):b<=a:=by unfold DP at c;omega
def DP.off{a:D}{d:Ak}(c:DP a b d):DP a b Ac:=by have:=c.le;unfold DP;grind
def uW(a:AP)(c:D)(b:M)(e:c<a.Ap.l):DP (JM a) (JM (ER a c b).1) (ER a c b).2:=by
 unfold ER;split;.exact DP.refl _
 .rename_i g;let⟨d,f⟩:=Bo e
  have h:d.Ai=0:=P;have i:b.Ai≠0:=by grind
  have:=Xn M4 b f;have j:M4 d=1:=by unfold M4;grind
  have k:M4 b=0:=by unfold M4;grind
  show Fa M4 (a.Ap.set c b)+Fa (Fa LZ) a.A5+1<=Fa M4 a.Ap+Fa (Fa LZ) a.A5;omega
def cx(d:AH->M)(c:C AH)(a:AP)(f:c.l<=a.Ap.l):∀b,DP (JM a) (JM (C2 d c a b).1) (C2 d c a b).2
 |0=>DP.refl _
 |b+1=>by
  have g:=cx d c a f b;have h:=(Ns d c a b).1;unfold C2;split;.rename_i i e;have:=(Aid.1 e).1;exact g.mZ (uW _ b _ (by rw[h.Ap];omega))
  omega
def oz{a:AP}{f:M}{b:BC}(n:b.is=L)(h:Fk a.A5 d c):DP (JM a) (JM (CE a d c f b).1) (CE a d c f b).2.1:=by
 unfold CE;split;.exact DP.refl _
 .split;.exact DP.refl _
  .rename_i q r;let⟨e,j,i⟩:=h
   let⟨g,k⟩:=Bo i
   have m:BT a d c=g:=by unfold BT;grind
   have o:LZ g=1:=by unfold LZ;grind
   have p:LZ b=0:=by unfold LZ;grind
   have l:C5 a.A5 d c b=a.A5.set d (e.set c b):=by unfold C5;grind
   have s:=Xn LZ b k;have t:=Xn (Fa LZ) (e.set c b) j;show Fa M4 a.Ap+Fa (Fa LZ) (C5 a.A5 d c b)+1<=Fa M4 a.Ap+Fa (Fa LZ) a.A5;grind
def aR{c:D->M}{e:D}{d:BC}{b:AP}(h:d.is=L){f:D}(g:∀i,i<f->Fk b.A5 e i):∀a,a<=f->DP (JM b) (JM (B7 c e d b a).1) (B7 c e d b a).2.1
 |0,_=>DP.refl _
 |a+1,m=>by
  have k:=aR (c:=c) h g a (by omega);have l:=(Ty c e d b a).1;have j:=oz (f:=c a) h (MV l.A5 (g a (by omega)));unfold B7;split;.grind
  .split;.grind
   .exact k.AQ j
def WW{b:AP}(f:c<a.T.l){e:Ak}(g:DP (JM (a.at c)) (JM b) e):DP (mu d a) (mu d (a.AM c b)) e:=by have h:=Xn JM b (Cu f);unfold DP mu at*;rw[D0];have:Fa _ (a.AM c b).T=Fa JM (a.T.set c b):=B;omega
def gH{j:C Ab}(f:Bj j){c:Ab}{a:AP}(b:DU j g c a):JM a<=4812:=by
 have e:=f.A4 g c b.hb;have q:Fa M4 a.Ap<=1*a.Ap.l:=Xm λp _=>by unfold M4;grind
 have r:Fa (Fa LZ) a.A5<=12*a.A5.l:=Xm λd o=>by
  let⟨h,m⟩:=Ajh.1 o
  let⟨k,n⟩:=Bo (b:=c.Ay) (a:=h) (by rw[<-b.A5];grind)
  have:=b.BS h k d n m;have:=SK f k;have:Fa LZ d<=1*d.l:=Xm λp _=>by unfold LZ;grind
  omega
 have:=b.Ap;have:=b.A5;have:=e.Ap;have:=e.Ay;unfold JM;omega
def n6{d:C _}(k:Bj d){j:D}(i:Bn d a)(f:c<a.T.l)(q:(a.at c).AN≠-1):DP (mu j a) (mu j (Cl d a c).1) (Cl d a c).2:=by
 let⟨E,r,m,u,b,h,_⟩:=i.up f q
 let⟨s,o,e⟩:=i.W.sh.Bw c _ (Cu f)
 let⟨t,g⟩:=b.FM
 unfold Cl;simp only[];split;.exact DP.refl _
 .refine WW f (cx _ _ _ ?_ _);unfold Nx;rw[h.2.1,h.2.2,Aif,Aif,g.BB,b.hn,Aiz];let⟨l,n,v,p,w,x,y⟩:=((k.A4 t m g.hb).Ao r u b.hn).call b.op
  have:n=o:=by
   have z:=b.CO;have:l=s:=by have:=e.ha;omega
   subst this;exact AiI (p.s.t e.hb)
  subst this;have:=e.Ap;omega
def rR{c:C _}(i:Bj c)(f:Bn c a)(g:b<a.T.l)(l:(a.at b).AN≠-1):DP (mu h a) (mu h (Et c a b).1) (Et c a b).2.1:=by
 let⟨v,r,p,u,j,e,m⟩:=f.up g l
 let⟨s,k,d⟩:=f.W.sh.Bw b _ (Cu g)
 let⟨t,n,w,o,x,y⟩:=j.E_ i d
 unfold Et;simp only[e.2.1,e.2.2,Aif,d.BB];exact WW m (aR B (f:=k.Bs.l) (λz q=>⟨n,o,by omega⟩) _ Om)
def Aeu{f:C _}(j:Bj f)(d:Bn f a)(e:b<a.T.l)(m:(a.at b).AN≠-1)(g:M):DP (mu h a) (mu h (HU a b g).1) (HU a b g).2.1:=by
 let⟨x,t,r,w,k,c,n⟩:=d.up e m
 let⟨u,l,i⟩:=d.W.sh.Bw b _ (Cu e)
 let⟨v,o,p,q,y,z⟩:=k.E_ j i
 unfold HU;simp only[c.2.1,c.2.2,Aif,p,Aiz];exact WW n (aR B (f:=l.Bs.l) (λE s=>⟨o,q,by omega⟩) _ (by omega))
def Aby{d:C Ab}(m:Bj d)(f:Bn d a)(h:b<a.T.l)(q:(a.at b).next≠-1):DP (mu k a) (mu k (Gp d a b).1) (Gp d a b).2:=by
 let⟨r,g,i⟩:=f.next h q
 let⟨j,n,c⟩:=f.W.sh.Bw b _ (Cu h)
 let⟨s,t,e⟩:=f.W.sh.Bw r _ (Cu i)
 have l:=m.A4 j n c.hb;unfold Gp;simp only[g.next,Aif,c.BB];refine WW i (cx _ _ _ ?_ _);have o:s=j:=by have:=c.ha;have:=e.ha;have:=g.A4;omega
 subst o;have p:=AiI (e.hb.s.t c.hb);subst p;have:=e.Ap;have:=l.A6;omega
def Abv{c:C Ab}(h:Bj c)(z:e=5000)(i:Bn c a)(j:b<a.T.l)(s:(a.at b).AN≠-1):DP (mu e a) (mu e (Fh c a b).1) (Fh c a b).2.1:=by
 let⟨H,E,w,G,v,u,y⟩:=i.up j s
 let⟨k,g,f⟩:=i.W.sh.Bw b _ (Cu j)
 unfold Fh;simp only[];split
 .by_cases m:a.T.l=400
  .have p:ED c a (a.at b).A4 (a.at b).AN (a.at b).Ao ((a.at b).As+1) (B8 c (a.at b))=(a,5):=by unfold ED;grind
   rw[p];exact DP.refl _
  .have q:ED c a (a.at b).A4 (a.at b).AN (a.at b).Ao ((a.at b).As+1) (B8 c (a.at b))=(⟨a.T++[{Dl c g k (a.at b).AN (a.at b).Ao ((a.at b).As+1)with Ap:=(Bv g.Ap.n AK).set 0 (B8 c (a.at b))}],a.Ae,a.round,a.Aq⟩,0):=by
    unfold ED;rw[Ad m,f.ha,Aif,f.hb]
   rw[q]
   have l:¬((0:K)≠0):=by grind
   rw[Ad l]
   have F:=gH h (Wy h f.hb (a.at b).AN (a.at b).Ao ((a.at b).As+1) _ (dy (h.A4 k g f.hb).Ap.1 (B8 c (a.at b))))
   generalize({Dl c _ _ _ _ _ with Ap:=(Bv g.Ap.n AK).set 0 (B8 c (a.at b))})=d at*
   have t:(Ah.mk (a.T++[d]) a.Ae a.round a.Aq).T.l=a.T.l+1:=by grind
   have r:b<(Ah.mk (a.T++[d]) a.Ae a.round a.Aq).T.l:=by grind
   have n:(Ah.mk (a.T++[d]) a.Ae a.round a.Aq).at b=a.at b:=by rw[FG,Ad (by omega)]
   have o:DP (mu e a) (mu e ⟨a.T++[d],a.Ae,a.round,a.Aq⟩) L:=by
    unfold DP mu;rw[t];have:Fa JM (Ah.mk (a.T++[d]) a.Ae a.round a.Aq).T=Fa JM a.T+JM d:=by show Fa _ _=_;rw[AeL,U1];rfl
    rw[this];have x:=i.W.sh.AX;grind
   exact o.AQ (WW r (by rw[n];exact DP.refl _):DP (mu e ⟨a.T++[d],a.Ae,a.round,a.Aq⟩) (mu e (Ah.AM ⟨a.T++[d],a.Ae,a.round,a.Aq⟩ b {a.at b with next:=a.T.l})) Ac)
 .exact DP.refl _
def AbB{g:C Ab}(d:Bj g)(p:h=5000){b:Ah}(a:Bn g b)(c:e<b.T.l)(f:(b.at e).AN≠-1):DP (mu h b) (mu h (EM g b e).1) (EM g b e).2.1:=by
 let⟨F,x,r,E,k,q,v⟩:=a.up c f
 let⟨z,s,i⟩:=a.W.sh.Bw e _ (Cu c)
 unfold EM;simp only[];split;.exact DP.refl _
 .rename_i l;split;.exact Aeu d a c f _
  .rename_i o;have j:=Abv d p a c f;split;.grind
   .rename_i w;let⟨t,y,u,m,n⟩:=(Wz d a.W.sh (Cu c) k i).2.2 (Aih Om)
    exact j.mZ (Aby d (Zt d a c f l o) P (by rw[(DM m),n.next];omega))
def u1{a:C Ab}(f:Bj a)(r:e=5000){b:Ah}(n:Bn a b)(g:c<b.T.l):DP (mu e b) (mu e (Eb a b c).1) (Eb a b c).2.1:=by
 unfold Eb;simp only[];split;.exact DP.refl _
 .rename_i q;have o:=(Vj (c:=a) (Cu g)).1;have j:=XN n g;have d:c<(Cl a b c).1.T.l:=by rw[o.AX];grind
  have k:((Cl a b c).1.at c).AN≠-1:=by rw[(o.Tu g).1.AN];grind
  let⟨y,v,t,x,m,s,u⟩:=j.up d k
  have p:=(VJ (b:=a) (Cu d) m.AN m.Cp).1;have h:=n6 f (j:=e) n g q;have i:=rR f (h:=e) j d k;split;.have:=h.AQ i.off;grind
  .split;.exact h.AQ i
   .exact(h.AQ i).AQ (AbB f r (Yo f j d k) (by rw[p.AX];grind) (by rw[(p.Tu d).1.AN];grind))
def lb{c:C Ab}(d:Bj c){e:D}(g:e=5000){b:Ah}(f:Bn c b):∀a,DP (mu e b) (mu e (Cb c b a).1) (Cb c b a).2.1
 |0=>DP.refl _
 |a+1=>by
  have i:=lb d g f a;have h:=SN d f a;rw[PB];split;.grind
  .rename_i j;exact i.AQ (u1 d g h Om)
def i5{d:C Ab}(b:Bj d){e h:D}(g:h=5000):∀{f:D}{a:Ah},Bn d a->mu h a<f->∃l,He d e f a=A l
 |0,a,c,k=>by omega
 |f+1,a,c,k=>by
  have i:=lb b g c e;have j:=SN b c e;unfold He;split;.grind
  .split;.rename_i m;refine i5 b g j ?_;unfold DP at i;grind
   grind
def Aa5{c:C Ab}(f:Bj c)(n:d=5000){b:Ah}(a:Dk c b):mu d b<=2000000:=by
 have m:=Xm λg h=>by obtain⟨j,i⟩:=Ajh.1 h;obtain⟨k,l,e⟩:=a.Bw j g i;have:=gH f e;omega
 have:=a.AX;unfold mu;grind
def cC{a:C Ab}(c:Bj a)(k:2000000<b){e:Ah}(d:Bn a e):∃h,Hf a g b e=A h:=by
 obtain⟨i,f⟩:∃i:D,i=5000:=⟨_,B⟩;have:=Aa5 c f d.W.sh;let⟨h,j⟩:=i5 c (e:=g) (f:=b) f d (by omega)
 unfold Hf;grind
def AdK{b:C Ab}(e:Bj b){i:D}(g:2000000<f)(d:GI b a):∃j,KS b i f a=A j:=by
 unfold KS;simp only[];by_cases c:(C1 b (Bp b a) (a.round+1) ⟨a.T,a.Ae,a.round+1,a.Aq⟩ (Bp b a).l).2=0;.rw[Ad (λh=>h c:¬(C1 b _ _ _ _).2≠0)];exact cC e g (Oh e d.X d.r0 _ Om c).X
 .rw[Af c];grind
def en{b:C Ab}(g:Bj b){i j:D}(l:2000000<j):∀{h:D}{a:Ah},GI b a->6000-a.Aq<h->∃k,Iy b i j h a=A k
 |0,a,c,p=>by have:=c.X.W.Aq;omega
 |h+1,a,c,p=>by
  unfold Iy;by_cases e:(Bp b a).l=0;.rw[Af e];grind
  .rw[Ad e];let⟨f,d⟩:=AdK g (i:=i) l c
   rw[d];show∃k,(if f.2≠0 then A f else Iy b i j h f.1)=A k;by_cases o:f.2=0
   .rw[Ad Om];refine en g l (W3 g c e d o) ?_;have:f.1.Aq=a.Aq+(Bp b a).l:=by
     unfold KS at d;simp only[]at d;by_cases e:(C1 b (Bp b a) (a.round+1) ⟨a.T,a.Ae,a.round+1,a.Aq⟩ (Bp b a).l).2=0
     .have n:¬(C1 b (Bp b a) (a.round+1) ⟨a.T,a.Ae,a.round+1,a.Aq⟩ (Bp b a).l).2≠0:=by grind
      rw[Ad n]at d;exact(T2 d).2.2.t (Oh g c.X c.r0 _ Om e).Aq
     grind
    omega
   grind
def dN{c:C Ab}(g:2000000<f)(a:AS):∃i,HH c h f a=A i:=by
 unfold HH;by_cases b:DR c=0
 .rw[Ad Om];by_cases d:I2 (Il c) a=0
  .rw[Ad Om];by_cases e:(B1 a.l a.BO).2.2=0;.rw[Ad Om];exact cC (GU b) g (Xk (GU b) d e)
   .rw[Af e];grind
  .rw[Af d];grind
 .rw[Af b];grind
def hw{b:C Ab}{a:D}(h:2000000<d)(p:6000<a)(j:AS):∃f,F7 b c d a j=A f:=by
 unfold F7;let⟨e,i⟩:=dN (c:=b) (h:=c) h j
 rw[i];show∃f,(if e.2≠0 then A e else Iy b c d a _)=A f;by_cases k:e.2=0
 .rw[Ad Om];let⟨n,g⟩:=NN (λo=>GU o) i k
  have:=g.X.W.Aq;exact en (GU n) h g (by omega)
 grind
def Uw:C Bc->C Bc->K->K->Ak
 |a::e,b::f,c,d=>if a.Ao≠b.Ao then Au (a.Ao<b.Ao)else if a.As≠b.As then Au (a.As<b.As)else Uw e f c d
 |[],[],c,d=>Au (c<d)
 |[],_::_,_,_=>L
 |_::_,[],_,_=>Ac
def GC{b:G}{e:Aa}{a:D}{c:C _}(f:b.N e=A (.I d c)):AW b [.p e a]=c[a]? :=ZW (f:=d) (by rw[f];rfl) a
def hf(a b:M):F5 L [0,0] [.S a.c,.S b.c]=A (.b (!Au (a=b))):=by simp[M.c];cases a;cases b;simp
def hd(a b:Bc):F5 L [0,0] [.S a.c,.S b.c]=A (.b (!Au (a=b))):=by simp[Bc.c];cases a;cases b;simp
def Aar(b g:C M)(x:b.l=g.l)(y:b.l<1000000000)(c:G):∀d a,b.l-a=d->a<=b.l->jj W9 38 2 [Cx b.l,Z M.c b,Z M.c g,Cx a] c=A (.b (Au (b.d a=g.d a)),c):=by
 intro d
 induction d with
 |zero=>
  intro a n o;have:¬(a:K)<b.l:=by omega
  rw[Sp.2.2.2.1];simp only[Cx,E1,Aig,this,AiY,FU,Aiu,AiC];rw[Sp.2.2.1,Aiq (by omega),Aiq (by omega)];rfl
 |succ d u=>
  intro a n o;have p:(a:K)<b.l:=by omega
  obtain⟨e,q,r⟩:=Eh (b:=b) (a:=a) (by omega);obtain⟨w,s,t⟩:=Eh (b:=g) (a:=a) (by omega);have j:=Fi (a:=M.c) (f:=2) (i:=.n) q B;have m:=Fi (a:=M.c) (f:=2) (i:=.n) s B;have v:∀(c:G)(e:M),Bf 2 c [.pi e.c]=A (.S e.c):=λ_ _=>B;rw[Sp.2.2.2.1];simp only[Cx,E1,Aig,p,AiA,FU,AiJ];rw[Sp.2.2.2.2.1];simp only[j,m,v,Aig,hf,FU,r,t];by_cases h:e=w;.simp only[h,AiA,AiB,Aiu,AiC];rw[Sp.2.2.2.2.2];simp only[MT,Aig,PV (a:=a) (by omega)];rw[show F.i .n ((a+1:D):K)=Cx ((a+1:D):K)from B,show F.i .n (b.l:K)=Cx b.l from B,u (a+1) (by omega) (by omega)];simp
  .simp[h]
def iE(a b:C M)(f:a.l<1000000000):A2 38 [Z M.c a,Z M.c b] (.b (Au (a=b))):=BP B B B ⟨G.Az,by
 rw[Sp.1];simp only[Ek,Aig,FW,FU];by_cases d:a.l=b.l
 .have c:(a.l:K)=b.l:=by omega
  simp only[c,AiA,AiB,Aiu,AiC];rw[Sp.2.1];have:=Aar a b d f G.Az a.l 0 (by omega) (by omega);simp only[Ek,Aig];exact this
 .have c:¬(a.l:K)=b.l:=by omega
  have:¬a=b:=λe=>d (by rw[e]);simp[c,this]⟩
def Aam(b g:C Bc)(x:b.l=g.l)(y:b.l<1000000000)(c:G):∀d a,b.l-a=d->a<=b.l->jj W9 27 2 [Z Bc.c b,Z Bc.c g,Cx a] c=A (.b (Au (b.d a=g.d a)),c):=by
 intro d
 induction d with
 |zero=>
  intro a n o;have:¬(a:K)<b.l:=by omega
  rw[Sn.2.2.2.1];simp only[Cx,Ek,E1,Aig,this,AiY,FU,Aiu,AiC];rw[Sn.2.2.1,Aiq (by omega),Aiq (by omega)];rfl
 |succ d u=>
  intro a n o;have p:(a:K)<b.l:=by omega
  obtain⟨e,q,r⟩:=Eh (b:=b) (a:=a) (by omega);obtain⟨w,s,t⟩:=Eh (b:=g) (a:=a) (by omega);have j:=Fi (a:=Bc.c) (f:=2) (i:=.n) q B;have m:=Fi (a:=Bc.c) (f:=2) (i:=.n) s B;have v:∀(c:G)(e:Bc),Bf 2 c [.pi e.c]=A (.S e.c):=λ_ _=>B;rw[Sn.2.2.2.1];simp only[Cx,Ek,E1,Aig,p,AiA,FU,AiJ];rw[Sn.2.2.2.2.1];simp only[j,m,v,Aig,hd,FU,r,t];by_cases h:e=w;.simp only[h,AiA,AiB,Aiu,AiC];rw[Sn.2.2.2.2.2];simp only[MT,Aig,PV (a:=a) (by omega)];rw[show F.i .n ((a+1:D):K)=Cx ((a+1:D):K)from B,u (a+1) (by omega) (by omega)];simp
  .simp[h]
def iu(a b:C Bc)(f:a.l<1000000000):A2 27 [Z Bc.c a,Z Bc.c b] (.b (Au (a=b))):=BP B B B ⟨G.Az,by
 rw[Sn.1];simp only[Ek,Aig,FW,FU];by_cases d:a.l=b.l
 .have c:(a.l:K)=b.l:=by omega
  simp only[c,AiA,AiB,Aiu,AiC];rw[Sn.2.1];exact Aam a b d f G.Az a.l 0 (by omega) (by omega)
 .have c:¬(a.l:K)=b.l:=by omega
  have:¬a=b:=λe=>d (by rw[e]);simp[c,this]⟩
def Aaa(b g:C M)(v:b.l=g.l)(w:b.l<1000000000)(c:G):∀d a,b.l-a=d->a<=b.l->jj W9 57 2 [Z M.c b,Z M.c g,Cx a] c=A (.b (Au (b.d a=g.d a)),c):=by
 intro d
 induction d with
 |zero=>
  intro a j m;have:¬(a:K)<b.l:=by omega
  rw[Ss.2.2.2.1];simp only[Cx,Ek,E1,Aig,this,AiY,FU,Aiu,AiC];rw[Ss.2.2.1,Aiq (by omega),Aiq (by omega)];rfl
 |succ d s=>
  intro a j m;have n:(a:K)<b.l:=by omega
  let⟨e,o,p⟩:=Eh (b:=b) (a:=a) (by omega)
  let⟨u,q,r⟩:=Eh (b:=g) (a:=a) (by omega)
  have t:∀(c:G)(e:M),Bf 2 c [.pi e.c]=A (.S e.c):=λ_ _=>B;rw[Ss.2.2.2.1];simp only[Cx,Ek,E1,Aig,n,AiA,FU,AiJ];rw[Ss.2.2.2.2.1];simp only[(Fi (a:=M.c) (f:=2) (i:=.n) o B),(Fi (a:=M.c) (f:=2) (i:=.n) q B),t,Aig,hf,FU,p,r];by_cases h:e=u;.simp only[h,AiA,AiB,Aiu,AiC];rw[Ss.2.2.2.2.2];simp only[MT,Aig,PV (a:=a) (by omega)];rw[show F.i _ _=Cx _ from B,s (a+1) (by omega) (by omega)];simp
  .simp[h]
def h8(a b:C M)(e:a.l<1000000000):A2 57 [Z M.c a,Z M.c b] (.b (Au (a=b))):=BP B B B ⟨G.Az,by
 rw[Ss.1];simp only[Ek,Aig,FW,FU];by_cases c:a.l=b.l
 .have d:a.l=b.l:=by omega
  simp only[d,AiA,AiB,Aiu,AiC];rw[Ss.2.1];exact Aaa a b c e G.Az a.l 0 (by omega) (by omega)
 .have:¬a=b:=by grind
  grind⟩
def Aas(b g:C (C M))(x:b.l=g.l)(E:b.l<1000000000)(y:∀c∈b,c.l<1000000000)(d:G):∀e a,b.l-a=e->a<=b.l->jj W9 39 2 [Cx b.l,Z FJ b,Z FJ g,.f (Ar 38) [],Cx a] d=A (.b (Au (b.d a=g.d a)),d):=by
 intro e
 induction e with
 |zero=>
  intro a o p;have:¬(a:K)<b.l:=by omega
  rw[Sq.2.2.2.1];simp only[Cx,E1,Aig,this,AiY,FU,Aiu,AiC];rw[Sq.2.2.1,Aiq (by omega),Aiq (by omega)];rfl
 |succ e v=>
  intro a o p;have q:(a:K)<b.l:=by omega
  let⟨c,r,s⟩:=Eh (b:=b) (a:=a) (by omega)
  let⟨j,t,u⟩:=Eh (b:=g) (a:=a) (by omega)
  have m:=Fi (a:=FJ) (f:=1) (i:=.n) t B;have w:∀(d:G)(c:C M),AW d [.pi (FJ c)]=A (Z M.c c):=λ_ _=>B;have n:=(iE c j P).at B;rw[Sq.2.2.2.1];simp only[Cx,E1,Aig,q,AiA,FU,AiJ];rw[Sq.2.2.2.2.1];simp only[(Fi (a:=FJ) (f:=1) (i:=.n) r B),m,w,Aig,K8,Aiy,n,VG,FU,s,u];by_cases h:c=j;.simp only[h,AiA,AiB,Aiu,AiC];rw[Sq.2.2.2.2.2];simp only[MT,Aig,PV (a:=a) (by omega)];rw[show F.i _ _=Cx _ from B,show F.i _ _=Cx _ from B,v (a+1) (by omega) (by omega)];simp
  .simp[h]
def us(a b:C (C M))(f:a.l<1000000000)(e:∀g∈a,g.l<1000000000):A2 39 [Z FJ a,Z FJ b,.f (Ar 38) []] (.b (Au (a=b))):=BP B B B ⟨G.Az,by
 rw[Sq.1];simp only[Ek,Aig,FW,FU];by_cases c:a.l=b.l
 .have d:a.l=b.l:=by omega
  simp only[d,AiA,AiB,Aiu,AiC];rw[Sq.2.1];simp only[Ek,Aig];exact(Aas a b c f e G.Az a.l 0 (by omega) (by omega))
 .have:¬a=b:=by grind
  grind⟩
def kX(a b:K):Ji a b=0↔a=0/\b=0:=by unfold Ji;omega
def bh(a b:K):IG a b=0↔a=b:=by unfold IG;omega
def qH(a b:Bc):Mc a b=0↔a=b:=by unfold Mc;rw[kX,bh,bh];cases a;cases b;simp
def gq:∀a b:C Bc,GK a b=0↔a=b
 |[],[]=>by simp[GK]
 |[],_::_=>by simp[GK]
 |_::_,[]=>by simp[GK]
 |d::a,e::b=>by
  have f:=qH d e;by_cases c:d=e;.have:=f.2 c;subst c;simp[GK,this,(gq a b)]
  .have:¬Mc d e=0:=by grind
   simp[GK,this,c]
def qI(a b:Cc):GL a b=0↔a=b:=by unfold GL;rw[kX,gq,bh];cases a;cases b;simp
def Aat(d q:C Cc)(Y:d.l=q.l)(xb:d.l<1000000000)(xa:∀c∈d,c.ES.l<1000000000):∀o b (a:G),d.l-b=o->b<=d.l->∃s,jj W9 40 2 [Cx d.l,Z Cc.c d,Z Cc.c q,.f (Ar 41) [],Cx b] a=A (.b (Au (d.d b=q.d b)),s):=by
 intro o
 induction o with
 |zero=>
  intro b a J M;have:¬(b:K)<d.l:=by omega
  rw[Sr.2.2.2.1];simp only[Cx,E1,Aig,this,AiY,FU,Aiu,AiC];rw[Sr.2.2.1,Aiq (by omega),Aiq (by omega)];exact⟨a,B⟩
 |succ o U=>
  intro b a J M;have N:(b:K)<d.l:=by omega
  let⟨c,Q,R⟩:=Eh (b:=d) (a:=b) (by omega)
  let⟨g,S,T⟩:=Eh (b:=q) (a:=b) (by omega)
  have E:=Fi (a:=Cc.c) (f:=2) (i:=.n) S B;have X:∀(a:G)(c:Cc),Bf 2 a [.pi c.c]=A (.S c.c):=λ_ _=>B;have H:=(uu c g P).at B;have w:=Ye (a:=2) (c:=a) (e:=a.next) (d:=[.sn,.i .n 0]) (b:=c.c) B B B;generalize t:(a.V _).set _ (.I 2 c.c)=j at w;have v:j.next=a.next.IP:=by rw[<-t];rfl
  have I:j.N a.next=A (.I 2 c.c):=by rw[<-t];simp
  have x:=Ye (a:=2) (c:=j) (e:=a.next.IP) (d:=[.sn,.i .n 0]) (b:=g.c) P B B;generalize u:(j.V _).set _ _=e at x;have V:Bf 2 e [.p a.next 0]=A (.S c.c):=by
   have:e.N a.next=A (.I 2 c.c):=by rw[<-u];simp[v,I]
   rw[Gk,UV (b:=2) (e:=c.c) (by rw[this];rfl)];rfl
  have W:Bf 2 e [.p a.next.IP 0]=A (.S g.c):=by
   have:e.N a.next.IP=A (.I 2 g.c):=by rw[<-u];simp
   rw[Gk,UV (b:=2) (e:=g.c) (by rw[this];rfl)];rfl
  rw[Sr.2.2.2.1];simp only[Cx,E1,Aig,N,AiA,FU,AiJ];rw[Sr.2.2.2.2.1];simp only[(Fi (a:=Cc.c) (f:=2) (i:=.n) Q B),E,X,Aig,Tz,w,v,x,V,W,K8,Aiy,H,VG,FU,R,T,qI];by_cases r:c=g
  .simp only[r,AiA,AiB,Aiu,AiC];rw[Sr.2.2.2.2.2];simp only[MT,Aig,PV (a:=b) (by omega)];let⟨s,y⟩:=U (b+1) e (by omega) (by omega)
   refine⟨s,?_⟩;rw[show F.i _ _=Cx ((b+1:D):K)from B,show F.i .n (d.l:K)=Cx d.l from B,y];simp
  .simp only[r,AiY,Ai2,AiJ];exact⟨e,by simp[r]⟩
def ut(a b:C Cc)(f:a.l<1000000000)(e:∀g∈a,g.ES.l<1000000000):A2 40 [Z Cc.c a,Z Cc.c b,.f (Ar 41) []] (.b (Au (a=b))):=BP B B B (by
 rw[Sr.1];simp only[Ek,Aig,FW,FU];by_cases c:a.l=b.l
 .have d:a.l=b.l:=by omega
  simp only[d,AiA,AiB,Aiu,AiC];rw[Sr.2.1];simp only[Ek,Aig];exact(Aat _ _ c f e _ 0 G.Az (by omega) (by omega))
 .have:¬a=b:=by grind
  exact⟨G.Az,by grind⟩)
def Gs(b:C M)(a:C (C M)):C F:=[Z M.c b,Z FJ a]
def Aaq(Q R:C M)(b e:C (C M))(S:b.l=e.l)(T:b.l<1000000000)(E:∀d∈b,d.l<1000000000)(c:G)(j m:Aa)(x:c.N j=A (.I 2 (Gs Q b)))(y:c.N m=A (.I 2 (Gs R e))):∀g a,b.l-a=g->a<=b.l->jj W9 20 2 [.p j 0,.p m 0,Cx a] c=A (.b (Au (b.d a=e.d a)),c):=by
 have h:AW c [.p j 1]=A (Z FJ b):=GC x
 have q:AW c [.p m 1]=A (Z FJ e):=GC y
 intro g
 induction g with
 |zero=>
  intro a u v;have:¬(a:K)<b.l:=by omega
  rw[Sl.2.2.2.1];simp only[Cx,F6,Aix,h,Ek,E1,Aig,this,AiY,FU,Aiu,AiC];rw[Sl.2.2.1,Aiq (by omega),Aiq (by omega)];rfl
 |succ g N=>
  intro a u v;have w:(a:K)<b.l:=by omega
  let⟨d,o,H⟩:=Eh (b:=b) (a:=a) (by omega)
  let⟨p,I,J⟩:=Eh (b:=e) (a:=a) (by omega)
  have r:=Fi (a:=FJ) (f:=1) (i:=.n) o B;have s:=Fi (a:=FJ) (f:=1) (i:=.n) I B;have P:∀(c:G)(d:C M),AW c [.pi (FJ d)]=A (Z M.c d):=λ_ _=>B;have t:=(h8 d p (E d (Ail o))).at B;rw[Sl.2.2.2.1];simp only[Cx,F6,Aix,h,Ek,E1,Aig,w,AiA,FU,AiJ];rw[Sl.2.2.2.2.1];simp only[F6,Aix,h,q,r,s,P,Aig,t,VG,FU,H,J];by_cases n:d=p;.simp only[n,AiA,AiB,Aiu,AiC];rw[Sl.2.2.2.2.2];simp only[MT,Aig,PV (a:=a) (by omega)];rw[show F.i _ _=Cx _ from B,N (a+1) (by omega) (by omega)];simp
  .simp[n]
def cp(b d:C M)(a c:C (C M))(q:b.l<1000000000)(r:a.l<1000000000)(p:∀s∈a,s.l<1000000000):A2 20 [.S (Gs b a),.S (Gs d c)] (.b (Au (b=d)&&Au (a=c))):=BP B B B (by
 have o:=(h8 b d q).at B;have f:((G.Az.V (.I 2 (Gs b a))).V (.I 2 (Gs d c))).N .h=A (.I 2 (Gs b a)):=by simp
 have g:((G.Az.V (.I 2 (Gs b a))).V (.I 2 (Gs d c))).N (.o .h)=A (.I 2 (Gs d c)):=by simp
 rw[Sl.1];simp only[Tz,bc,HE,G.HG,bq,Aa.Zx];rw[show(Gs b a).l=2 from B,show(Gs d c).l=2 from B];generalize(G.Az.V (.I 2 (Gs b a))).V (.I 2 (Gs d c))=e at f g;have h:e.AA .h 0=A (Z M.c b):=GC f;have i:e.AA .h 1=A (Z FJ a):=GC f;have j:e.AA (.o .h) 0=A (Z M.c d):=GC g;have k:e.AA (.o .h) 1=A (Z FJ c):=GC g;simp only[F6,RP,Aix,Aig,h,i,j,k,o,VG,eX,Ek,FW,rN,FU];by_cases l:b=d
 .by_cases n:a.l=c.l
  .have m:a.l=c.l:=by omega
   subst l;simp[m,h,i,j,k];rw[Sl.2.1];have:=Aaq b b a c n r p e .h (.o .h) f g a.l 0 (by omega) (by omega);refine⟨e,?_⟩;simp only[AiE]at this;simpa[Cx]using this
  .have m:¬(a.l:K)=c.l:=by omega
   have:¬a=c:=by grind
   exact⟨e,by simp[l,m,this,h,i,j,k]⟩
 .exact⟨e,by simp[l]⟩)
def OR(a b:Cv):Ak:=Au (a.Dj=b.Dj)&&Au (a.I=b.I)&&Au (a.D3=b.D3)&&Au (a.Aq=b.Aq)&&Au (a.K4=b.K4)&&Au (a.Ln=b.Ln)
def Rc(a:Cv):Prop:=a.D3.l<=200000/\a.Dj.l<=100000/\a.I.l<=100000/\(∀b∈a.I,b.l<=100000)/\∀c∈a.D3,c.ES.l<=100000
def it(a b:Cv)(F:Rc a):A2 13 [.S a.c,.S b.c] (.b (OR a b)):=BP B B B (by
 let⟨I,J,N,P,Q⟩:=F
 have q:=(iE a.Dj b.Dj (by omega)).at B;have r:=(us a.I b.I (by omega) (λH E=>by grind)).at B;have f:=(ut a.D3 b.D3 (by omega) (λH E=>by grind)).at B;have d:((G.Az.V (.I 7 a.c)).V (.I 7 b.c)).N .h=A (.I 7 a.c):=by simp
 have e:((G.Az.V (.I 7 a.c)).V (.I 7 b.c)).N (.o .h)=A (.I 7 b.c):=by simp
 rw[vQ];simp only[Tz,bc,HE,G.HG,bq,Aa.Zx,Cv.Qe];generalize(G.Az.V (.I 7 a.c)).V (.I 7 b.c)=c at d e;refine⟨c,?_⟩;have s:c.AA .h 0=A (Z M.c a.Dj):=GC d;have g:c.AA .h 1=A (Z FJ a.I):=GC d;have h:c.AA .h 2=A (.i .n a.Aq):=GC d;have i:c.AA .h 3=A (.i .n a.K4):=GC d;have j:c.AA .h 4=A (.i .n a.Ln):=GC d;have k:c.AA .h 6=A (Z Cc.c a.D3):=GC d;have t:c.AA (.o .h) 0=A (Z M.c b.Dj):=GC e;have l:c.AA (.o .h) 1=A (Z FJ b.I):=GC e;have m:c.AA (.o .h) 2=A (.i .n b.Aq):=GC e;have n:c.AA (.o .h) 3=A (.i .n b.K4):=GC e;have o:c.AA (.o .h) 4=A (.i .n b.Ln):=GC e;have p:c.AA (.o .h) 6=A (Z Cc.c b.D3):=GC e;simp only[F6,RP,Aix,Ajq,Aig,s,g,h,i,j,k,t,l,m,n,o,p,q,f,eX];unfold OR;generalize Au (a.Dj=b.Dj)=u at q⊢;generalize Au (a.I=b.I)=v at r⊢;generalize Au (a.D3=b.D3)=w at f⊢;by_cases x:a.Aq=b.Aq<;>by_cases y:a.K4=b.K4<;>by_cases z:a.Ln=b.Ln<;>cases u<;>cases v<;>cases w<;>simp-implicitDefEqProofs [x,y,z,r,f,g,l,h,i,j,k,m,n,o,p])
def Ae9(a b:Cc):a=b↔a.Ao=b.Ao/\a.ES=b.ES:=by cases a;cases b;simp[and_comm]
def Aal(c h:Cv)(X:c.D3.l=h.D3.l)(Y:c.D3.l<1000000000)(S:∀a∈c.D3,a.ES.l<1000000000)(e:G)(y E:Aa)(Q:e.N y=A (.I 7 c.c))(R:e.N E=A (.I 7 h.c)):∀n b,c.D3.l-b=n->b<=c.D3.l->jj W9 12 2 [.p y 0,.p E 0,Cx b] e=A (.b (Au (c.D3.d b=h.D3.d b)),e):=by
 have g:e.AA y 6=A (Z Cc.c c.D3):=GC Q
 have o:e.AA E 6=A (Z Cc.c h.D3):=GC R
 intro n
 induction n with
 |zero=>
  intro b M N;have:¬(b:K)<c.D3.l:=by omega
  rw[Sc.2.2.2.1];simp only[Cx,F6,RP,Aix,g,Ek,E1,Aig,this,AiY,FU,Aiu,AiC];rw[Sc.2.2.1,Aiq (by omega),Aiq (by omega)];rfl
 |succ n V=>
  intro b M N;have P:(b:K)<c.D3.l:=by omega
  obtain⟨a,I,t⟩:=Eh (b:=c.D3) (a:=b) (by omega);obtain⟨d,U,u⟩:=Eh (b:=h.D3) (a:=b) (by omega);have r:=Fi (a:=Cc.c) (f:=2) (i:=.n) I B;have s:=Fi (a:=Cc.c) (f:=2) (i:=.n) U B;have v:∀(a:Cc),(a.c.d 0)[0]? =A (Z Bc.c a.ES):=λ_=>B;have x:∀(a:Cc),(a.c.d 1)[0]? =A (.i .n a.Ao):=λ_=>B;have H:=(iu a.ES d.ES (S a (Ail I))).at B;rw[Sc.2.2.2.1];simp only[Cx,F6,RP,Aix,g,Ek,E1,Aig,P,AiA,FU,AiJ];rw[Sc.2.2.2.2.1];simp only[F6,RP,Aix,g,o,r,s,rG,rH,v,x,Aig,FW,eX];have W:∀a:Cc,1<a.c.l:=λ_=>Nat.lt_succ_self 1;have J:∀a:Cc,a.c[1]'(W a)=.i .n a.Ao:=λ_=>B;have T:=Ae9 a d;by_cases m:a.Ao=d.Ao
  .by_cases p:a.ES=d.ES;.have j:a=d:=T.2 ⟨m,p⟩;subst j;have w:a.c[0]? =A (Z Bc.c a.ES):=B;simp[g,o,r,s,v,w,x,J,H];rw[Sc.2.2.2.2.2];simp only[MT,Aig,PV (a:=b) (by omega)];rw[show F.i .n ((b+1:D):K)=Cx ((b+1:D):K)from B,V (b+1) (by omega) (by omega),t,u];simp
   .have j:¬a=d:=λq=>p (by rw[q]);have w:∀a:Cc,a.c[0]? =A (Z Bc.c a.ES):=λ_=>B;simp[g,o,r,s,v,w,x,J,H,m,p,t,u,j]
  .have j:¬a=d:=λq=>m (by rw[q]);simp[m,t,u,j]
def lG{b:G}{c:Aa}{a:Cv}(d:b.N c=A (.I 7 a.c)):b.AU c 0 2=A (Gs a.Dj a.I):=by rw[UV (b:=7) (e:=a.c) (by rw[d];rfl),Af (by decide),Ad (by decide)];rfl
def vv(a c:Cv)(i:Rc a)(b:G)(e:b.N .h=A (.I 7 a.c))(f:b.N (.o .h)=A (.I 7 c.c))(d:a.D3.l=c.D3.l):jj W9 12 5 [.p .h 0,.p (.o .h) 0] b=A (.b (Au (a.D3=c.D3)),b):=by obtain⟨k,l,m,n,h⟩:=i;have:=Aal a c d (by omega) (λj g=>by have:=h j g;omega) b .h (.o .h) e f a.D3.l 0 (by omega) (by omega);rw[AiE,AiE]at this;rw[Sc.2.1];exact this
def eC{a:Ak}{b:G}{f g:Aa}{e:IntKind}{h i:K}(j:b.AA f c=A (.i e h))(k:b.AA g c=A (.i e i))(d:F->R):
  ((An (AO Ac (.b a)) (Bt c [.p f 0]) (A Ax)).b λl=>
   (An (AO Ac (.b a)) (AW b [l]) (A Ax)).b λm=>
   (An (AO Ac (.b a)) (Bt c [.p g 0]) (A Ax)).b λn=>
   (An (AO Ac (.b a)) (AW b [n]) (A Ax)).b λo=>
   (An (AO Ac (.b a)) (A7 .neq [m,o]) (A Ax)).b λp=>
   (C8 [.b a,.b L,p]).b d)=d (.b (a|| !Au (h=i))):=by
 cases a<;>simp[j,k]
def w0{a:Ak}{b:G}{e f:Aa}{g h:C Cc}(i:b.AA e c=A (Z Cc.c g))(j:b.AA f c=A (Z Cc.c h))(d:F->R):
  ((An (AO Ac (.b a)) (Bt c [.p e 0]) (A Ax)).b λk=>
   (An (AO Ac (.b a)) (AW b [k]) (A Ax)).b λl=>
   (An (AO Ac (.b a)) (Ea [l]) (A Ax)).b λm=>
   (An (AO Ac (.b a)) (Bt c [.p f 0]) (A Ax)).b λn=>
   (An (AO Ac (.b a)) (AW b [n]) (A Ax)).b λo=>
   (An (AO Ac (.b a)) (Ea [o]) (A Ax)).b λp=>
   (An (AO Ac (.b a)) (A7 .neq [m,p]) (A Ax)).b λq=>
   (C8 [.b a,.b L,q]).b d)=d (.b (a|| !Au ((g.l:K)=h.l))):=by
 cases a<;>simp[i,j]
def wQ(a b:Cv)(k:R)(c:G)(n:a.D3.l=b.D3.l->k=A (.b (Au (a.D3=b.D3)),c)):Dw (A (.b Ac,c)) k (.b (!(Au (a.Dj=b.Dj)&&Au (a.I=b.I))|| !Au (a.Aq=b.Aq)|| !Au (a.K4=b.K4)|| !Au (a.Ln=b.Ln)|| !Au ((a.D3.l:K)=b.D3.l)))=A (.b (OR a b),c):=by
 unfold OR;generalize Au (a.Dj=b.Dj)=e;generalize Au (a.I=b.I)=f;generalize Au (a.Aq=b.Aq)=g;generalize Au (a.K4=b.K4)=h;generalize Au (a.Ln=b.Ln)=i;by_cases j:a.D3.l=b.D3.l
 .have d:(a.D3.l:K)=b.D3.l:=by omega
  rw[n j];generalize Au (a.D3=b.D3)=l;rw[Be d];cases e<;>cases f<;>cases g<;>cases h<;>cases i<;>cases l<;>rfl
 .have d:¬(a.D3.l:K)=b.D3.l:=by omega
  have o:¬a.D3=b.D3:=λm=>j (by rw[m]);rw[Ba d,Ba o];cases e<;>cases f<;>cases g<;>cases h<;>cases i<;>rfl
def ir(a b:Cv)(x:Rc a):A2 12 [.S a.c,.S b.c] (.b (OR a b)):=BP B B B (by
 obtain⟨t,u,v,f,w⟩:=x;have q:=(cp a.Dj b.Dj a.I b.I (by omega) (by omega) (λy r=>by have:=f y r;omega)).at B;have d:((G.Az.V (.I 7 a.c)).V (.I 7 b.c)).N .h=A (.I 7 a.c):=by simp
 have e:((G.Az.V (.I 7 a.c)).V (.I 7 b.c)).N (.o .h)=A (.I 7 b.c):=by simp
 rw[Sc.1];simp only[Tz,bc,HE,G.HG,bq,Aa.Zx,Cv.Qe];generalize(G.Az.V (.I 7 a.c)).V (.I 7 b.c)=c at d e;have s:=vv a b ⟨t,u,v,f,w⟩ c d e;refine⟨c,?_⟩;have g:Bf 2 c [.p .h (0+0)]=A (.S (Gs a.Dj a.I)):=by rw[Gk];exact Aij (Option.map F.S) (lG d)
 have l:Bf 2 c [.p (.o .h) (0+0)]=A (.S (Gs b.Dj b.I)):=by rw[Gk];exact Aij (Option.map F.S) (lG e)
 have h:c.AA .h 2=A (.i .n a.Aq):=GC d;have i:c.AA .h 3=A (.i .n a.K4):=GC d;have j:c.AA .h 4=A (.i .n a.Ln):=GC d;have k:c.AA .h 6=A (Z Cc.c a.D3):=GC d;have m:c.AA (.o .h) 2=A (.i .n b.Aq):=GC e;have n:c.AA (.o .h) 3=A (.i .n b.K4):=GC e;have o:c.AA (.o .h) 4=A (.i .n b.Ln):=GC e;have p:c.AA (.o .h) 6=A (Z Cc.c b.D3):=GC e;rw[F6 0 .h 0,Aig,g,Aig,F6 0 (.o .h) 0,Aig,l,Aig,q c,Aig];dsimp only;rw[VG,Aig,eC h m,eC i n,eC j o,w0 k p];exact wQ a b _ c s)
def Ot(c:D)(b:C K)(a:K):D:=if a<(b.l:K)then(((b[a.n]?).g 0)%(c:K)).n else 0
def NP(a:C A8)(c:C K)(b:K):A8:=(a[Ot a.l c b]?).g ⟨0,0⟩
def IQ(b:C Ab)(g h:D)(i:C K):D->Ah->C A8->Aj (Ah×C A8×K)
 |0,_,_=>O
 |j+1,a,c=>
  if(Bp b a).l=0 then A (a,c,0)
  else
   let f:=NP (Bp b a) i a.Aq
   let e:=Ev b ⟨a.T,a.Ae,a.round+1,a.Aq⟩ f (a.round+1)
   if e.2≠0 then A (e.1,c++[f],e.2)else match Hf b g h e.1 with
    |some d=>if d.2≠0 then A (d.1,c++[f],d.2)else IQ b g h i j d.1 (c++[f])
    |none=>O
def L2(b:C Ab)(c d e:D)(g:AS)(f:C K):Aj (Ah×C A8×K):=match HH b c d g with
 |some a=>if a.2≠0 then A (a.1,[],a.2)else IQ b c d f e a.1 []
 |none=>O
def Acl{a:D}(f:0<a)(c:C K)(b:K):Ot a c b<a:=by
 unfold Ot;split;.have d:=Int.emod_lt_of_pos ((c[b.n]?).g 0) (show 0<(a:K) by omega);have e:=Int.emod_nonneg ((c[b.n]?).g 0) (show(a:K)≠0 by omega);omega
 .grind
def WU{a:C A8}(e:a.l≠0)(c:C K)(b:K):a[Ot a.l c b]? =A (NP a c b):=by
 have:=Acl (a:=a.l) (by omega) c b;unfold NP;let⟨f,d⟩:=Bo this
 rw[d];rfl
def AbW{b:CW}(i:Bj b.l)(c:GI b.l a){h:A8}(n:h∈Bp b.l a):∃e f k d g o,Th b ⟨a.T,a.Ae,a.round+1,a.Aq⟩ h e f k d g o:=by
 obtain⟨e,f,rfl,l,m⟩:=Sy n;have j:Bn b.l ⟨a.T,a.Ae,a.round+1,a.Aq⟩:=c.X.MH c.X.W.Aq;let⟨q,d,g,r,_,_,_,_,p⟩:=Yy i j l m
 grind
def Zz{b:C Ab}(g:Bj b)(d:GI b a){f:A8}(v:f∈Bp b a)(r:(Ev b ⟨a.T,a.Ae,a.round+1,a.Aq⟩ f (a.round+1)).2=0):Bn b (Ev b ⟨a.T,a.Ae,a.round+1,a.Aq⟩ f (a.round+1)).1/\(Ev b ⟨a.T,a.Ae,a.round+1,a.Aq⟩ f (a.round+1)).1.Aq=a.Aq+1/\∀{m n:D}{e:Ah×K},Hf b m n (Ev b ⟨a.T,a.Ae,a.round+1,a.Aq⟩ f (a.round+1)).1=A e->GI b e.1/\e.1.Aq=a.Aq+1:=by obtain⟨k,l,rfl,t,u⟩:=Sy v;have o:Bn b ⟨a.T,a.Ae,a.round+1,a.Aq⟩:=d.X.MH d.X.W.Aq;have y:=d.r0;have z:=d.rf;have c:=VN g o (c:=k) (n:=l) t u (by omega) r;have s:(Ev b ⟨a.T,a.Ae,a.round+1,a.Aq⟩ ⟨k,l⟩ (a.round+1)).1.Aq=a.Aq+1:=c.Aq;refine⟨c.X,s,λ{m n e} h=> ?_⟩;have w:=T2 h;have x:e.1.round=a.round+1:=w.2.1.t c.C0.round;have p:=(cB g c.X.W.sh h).1.AX;have q:a.T.l<=_:=c.C0.AX;exact⟨⟨cD g c.X h,by omega,by omega,AiN (AiN d.F_ q) p⟩,by omega⟩
def ZB{c:C Ab}(p:Bj c){n o:D}{i:C K}:∀{e:D}{a:Ah}{d:C A8}{f:Ah×C A8×K},GI c a->d.l<=a.Aq->IQ c n o i e a d=A f->(f.2.2=0->GI c f.1)/\f.2.1.l<=6001
 |0,a,d,f,j,u,b=>by cases b
 |e+1,a,d,f,j,u,b=>by
  have y:=j.X.W.Aq;unfold IQ at b;by_cases k:(Bp c a).l=0;.rw[Af k]at b;cases b;grind
  .rw[Ad k]at b;have r:=Ail (WU k i a.Aq);generalize NP (Bp c a) i a.Aq=h at b r;have z:(d++[h]).l=d.l+1:=by grind
   by_cases l:(Ev c ⟨a.T,a.Ae,a.round+1,a.Aq⟩ h (a.round+1)).2=0
   .rw[Ad (λe=>e l)]at b
    let⟨v,w,t⟩:=Zz p j r l
    cases m:Hf c n o (Ev c ⟨a.T,a.Ae,a.round+1,a.Aq⟩ h (a.round+1)).1 with
    |none=>rw[m]at b;cases b
    |some g=>
     rw[m]at b;let⟨s,x⟩:=t m
     have b:(if g.2≠0 then A (g.1,d++[h],g.2)else IQ c n o i e g.1 (d++[h]))=A f:=b;by_cases q:g.2=0;.rw[Ad (λe=>e q)]at b;exact ZB p s (by omega) b
     .rw[Af q]at b;cases b;grind
   .rw[Af l]at b;cases b;grind
def k1{c:C Ab}(g:Bj c){j k:D}(p:2000000<k)(e:C K):∀{b:D}{a:Ah}{d:C A8},GI c a->6000<b+a.Aq->∃n,IQ c j k e b a d=A n
 |0,a,d,f,w=>by have:=f.X.W.Aq;omega
 |b+1,a,d,f,w=>by
  unfold IQ;by_cases h:(Bp c a).l=0;.rw[Af h];grind
  .rw[Ad h];have r:=Ail (WU h e a.Aq);generalize NP (Bp c a) e a.Aq=s at r;by_cases i:(Ev c ⟨a.T,a.Ae,a.round+1,a.Aq⟩ s (a.round+1)).2=0
   .rw[Ad (λb=>b i)];let⟨v,x,u⟩:=Zz g f r i
    let⟨l,q⟩:=cC g (g:=j) p v
    rw[q];let⟨t,y⟩:=u q
    show∃n,(if l.2≠0 then A _ else IQ c j k _ b l.1 (d++[s]))=A n;by_cases o:l.2=0;.rw[Ad (λb=>b o)];exact k1 g p e t (by omega)
    .rw[Af o];grind
   .rw[Af i];grind
def kZ{c:C Ab}{a:D}(h:2000000<e)(q:6000<a)(n:AS)(j:C K):∃f,L2 c d e a n j=A f:=by
 unfold L2;let⟨k,i⟩:=dN (c:=c) (h:=d) h n
 rw[i];show∃f,(if k.2≠0 then A _ else IQ c d e _ a _ _)=A f;by_cases b:k.2=0
 .rw[Ad (λa=>a b)];let⟨o,g⟩:=NN (λp=>GU p) i b
  have:=g.X.W.Aq;exact k1 (GU o) h j g (by omega)
 .rw[Af b];grind
