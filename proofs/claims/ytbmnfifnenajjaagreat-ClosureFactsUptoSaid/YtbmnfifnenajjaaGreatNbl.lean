/- Part of the proof. -/
import Derived.Test.YtbmnfifnenajjaaGreatNbk
set_option linter.all false
noncomputable section
open Option renaming some->A,getD->Option.g,bind->Option.b
open _root_ renaming rfl->B,List->C,Nat->D,Int->K,if_neg->Ad,if_pos->Af,Bool->Ah,decide_eq_false->A2,absurd->BF
open Bool renaming true->L,false->Aa
open Decidable renaming decide->Ao
open List renaming replicate->BG,length->List.l,map->List.m,take->List.t,drop->List.d,toArray->List.a,flatMap->List.f
open Nat renaming le_refl->CK
open Go.IntKind renaming i64->Go.IntKind.n
open Array renaming toList->Array.l
open Eq renaming trans->Eq.t,symm->Eq.s
open Or renaming inl->Or.i,inr->Or.j
open Int renaming toNat->Int.n
namespace Go.Proofs.YtbmnfifnenajjaaGreat
open Go.Fg
def BY.MZ{d:C _}{b:Ai}(a:BY d b){f c:K}(e:0<=c/\c<=6000):BY d ⟨b.Ac,b.Am,f,c⟩:=
 ⟨{sh:=a.W.sh.of B,Fj:=a.W.Fj,AA:=e,vp:=a.W.vp,vo:=a.W.vo,p0:=a.W.p0,f0:=a.W.f0,Fk:=a.W.Fk,Fo:=a.W.Fo,B1:=a.W.B1,KN:=a.W.KN,L4:=a.W.L4,AV:=a.W.AV,Jx:=a.W.Jx},a.V⟩
structure Ai0(j:C Ab)(c a:Ai)(b d:D):Prop where
 X:BY j a
 Dj:H4 c a (λg h=>g=b/\h=d)
 A7:a.Ac.l=c.Ac.l
 Am:a.Am=c.Am
 AA:a.AA=c.AA+1
 CQ:∀e,Bs (a.at b) e=Bs (c.at b) e
 AS:0<D9 (a.at b) d
 Ky:∀f,(EI (a.at b) d f).Ak=0/\Ek (a.at b) d f=EQ
 Hf:∀i,¬CW a i b d
variable{c:D}
def j1{q:C Ab}{b:Ai}(g:BY q b){a:D}(n:a<b.Ac.l)(E:c<(b.at a).AS.l)(v:D9 (b.at a) c=0){e:K}(y:0<e)(G:b.AA≠6000):Ai0 q b (DO b ⟨a,c⟩ e) a c:=by
 have p:∀d,D9 {b.at a with AS:=(b.at a).AS.set c e} d=if d=c then e else D9 (b.at a) d:=λd=>by
  unfold D9;show(((b.at a).AS.set c e)[d]?).g 0=_;by_cases H:d=c;.grind
  .grind
 have m:DP b a {b.at a with AS:=(b.at a).AS.set c e}:={
  hi:=n
  En:=⟨B,B,B,B,B,B,Aed,B⟩
  next:=B
  Ar:=⟨λ_ _=>B,λ_ _ _=>B⟩
  vp:=g.W.vp a
  vo:=g.W.vo a
  f0:=λd=>by
   rw[p];split;.omega
   .exact g.W.f0 a d
  fm:=λd k=>by grind
  Fk:=λd k h=>by
   rw[p]at k;split at k;.omega
   .exact g.W.Fk a d k h
  Fo:=λj d l=>(g.W.Fo j a d l).2
  B1:=g.W.B1 a
  AV:=(DP.refl g.W n).AV}
 have w:DO b ⟨a,c⟩ e=⟨(b.AJ a {b.at a with AS:=(b.at a).AS.set c e}).Ac,b.Am,b.round,b.AA+1⟩:=B;have z:=g.W.AA;have t:∀h,(DO b ⟨a,c⟩ e).at h=(b.AJ a {b.at a with AS:=(b.at a).AS.set c e}).at h:=λh=>B;have o:(DO b ⟨a,c⟩ e).at a={b.at a with AS:=(b.at a).AS.set c e}:=by rw[t,HE n]
 have i:=m.Dj (g:=λs u=>s=a/\u=c) P;exact{
  X:=(g.AJ m).MZ (f:=b.round) (c:=b.AA+1) (by omega)
  Dj:=⟨i.A7,i.round,i.En,i.Ar,i.Qs⟩
  A7:=Ej ..
  Am:=B
  AA:=B
  CQ:=λx=>by rw[o];rfl
  AS:=by grind
  Ky:=λh=>by rw[o];exact g.W.Fk a c v h
  Hf:=λj l=>by have:=(g.W.Fo j a c (m.Hf.1 l:CW b j a c)).1;omega}
variable{a:Ai}
def XI{b:ED}(c:b.op=1\/b.op=3\/b.op=4):Eh a b=if(BE a.Am b).e≠0 then(a,AO,(BE a.Am b).e)else(⟨a.Ac,(BE a.Am b).m,a.round,a.AA⟩,(BE a.Am b).v,0):=by
 unfold Eh;have d:(BE a.Am b).F1=[]:=by unfold BE;grind
 grind
def wg{b:C _}{a:ED}(c:a.op=3)(d:a.Ct∉Dm b):a.Ct∈Dm (BE b a).m->(BE b a).v.Ak=0:=by
 unfold BE;rw[Ad (by omega),Ad (by omega),Af c]
 unfold Eb
 repeat' split
 all_goals first|grind|exactλ_=>B
structure TX(f:C Ab)(b a:Ai)(d e:D)(c:N):Prop where
 X:BY f a
 Ac:a.Ac=b.Ac
 round:a.round=b.round
 AA:a.AA=b.AA
 ok:B5 a.Am.l c
 Ky:((1000*d+e:D):K)∈Dm a.Am->c.Ak=0
variable{d:D}
def bi{k:C Ab}(f:BY k a)(w:c<a.Ac.l)(x:d<1000)(u:0<D9 (a.at c) d)(v:(EI (a.at c) d 0).Ak=0)(l:((1000*c+d:D):K)∉Dm a.Am){b:ED}(m:b.op=1\/b.op=3\/b.op=4)(j:B5 a.Am.l b.a)(o:B5 a.Am.l b.b)(t:b.op=3->b.Ct=(1000*c+d:D)/\IM k (a.at c) d=12)(p:(Eh a b).2.2=0):TX k a (Eh a b).1 c d (Eh a b).2.1:=by
 rw[XI m]at p⊢;by_cases s:(BE a.Am b).e=0
 .have n:¬(BE a.Am b).e≠0:=by grind
  rw[Ad n];have e:RU a.Am b:=by
   rcases m with g|g|g;.exact lf f.W.Fj g j
   .exact wj f.W.Fj g j o
   .exact Aac f.W.Fj g j
  refine⟨f.Yh e.Fj e.A7 (e.Jx f.W.Jx ?_) (λr h=> ?_),B,B,B,e.Eo,λh=> ?_⟩;.grind
  .rcases e.sub r h with i|⟨i,rfl⟩<;>grind
  .rcases e.sub _ h with i|⟨i,q⟩;.grind
   .rw[q]at h l;exact wg i l h
 grind
variable{b:D}
def nf{k:C _}{h:Ab}{j:D}{a:Au}(e:H2 k h j a)(l:a.op=1\/a.op=2\/a.op=3){d:N}(m:B5 b d):B5 b (M_ a d):=by
 unfold M_;by_cases i:d.Ak=5;.grind
 .rw[Ad i];by_cases f:a.op=3;.rw[Af f];rfl
  .rw[Ad f];by_cases c:a.op=2;.rw[Af c];rcases e.num c with g|g<;>rw[g]<;>rfl
   .rw[Ad c];exact gZ b (e.B6 (by omega))
def rU{h:C Ab}{b:Ai}(i:BY h b){e:D}(m:e<b.Ac.l)(n:d<1000)(k:0<D9 (b.at e) d)(l:(EI (b.at e) d 0).Ak=0)(j:((1000*e+d:D):K)∉Dm b.Am){x:Ab}{a:Au}(q:H2 h x d a)(I:IM h (b.at e) d=a.op)(H:¬(a.op=8\/a.op=9))(F:a.op≠11)(G:a.op≠5){f:C N}(E:∀g∈f,B5 b.Am.l g)(c:(E7 b ⟨e,d⟩ a f).2.2=0):TX h b (E7 b ⟨e,d⟩ a f).1 e d (E7 b ⟨e,d⟩ a f).2.1:=by
 have M:∀o,B5 b.Am.l (Cu f o):=λo=>by
  unfold Cu
  cases w:f[o]?with
  |none=>exact It _
  |some g=>grind
 have p:∀g,B5 b.Am.l g->TX h b b e d g:=λg w=>⟨i,B,B,B,w,P⟩;have J:=q.op;unfold E7 at c⊢;by_cases v:a.op=4;.rw[Af v];exact p _ (vo E)
 rw[Ad v]at c⊢;by_cases y:a.op=6;.grind
 rw[Ad y]at c⊢;by_cases z:a.op=7;.grind
 rw[Ad z]at c⊢;by_cases r:a.op=10;.rw[Af r]at c⊢;exact bi i m n k l j P P (It _) P c
 rw[Ad r]at c⊢;by_cases s:a.op=12;.rw[Af s]at c⊢;exact bi i m n k l j P P P P c
 rw[Ad s]at c⊢;by_cases t:a.op=13;.rw[Af t]at c⊢;exact bi i m n k l j P P (It _) P c
 rw[Ad t]at c⊢;by_cases u:a.op=14;.rw[Af u];exact p _ (nA P)
 rw[Ad u]at c⊢;exact p _ (nf q (by omega) P)
variable{g:D}
def TX.Dj{i:C _}{c d:Ai}{h:D}{j:N}(b:TX i c d g h j)(f:D->D->Prop):H4 c d f:=by
 have e:∀a,d.at a=c.at a:=λa=>by unfold Ai.at;rw[b.Ac]
 exact⟨by rw[b.Ac];grind,b.round,λa _=>by rw[e];exact DQ.refl _,λa _=>by rw[e];exact IW.refl _,P⟩
structure kP(g:C Ab)(b a:Ai)(e f:D):Prop where
 X:BY g a
 Dj:H4 b a (λc d=>c=e/\d=f)
 AA:a.AA=b.AA+1
def fi{y:C Ab}(Q:BD y){u:Ai}(R:BY y u){n:D}(xl:c<u.Ac.l)(xm:IP y (u.at c) n=L){H:K}(xO:0<H)(w:(F6 y u ⟨c,n⟩ H).2=0):kP y u (F6 y u ⟨c,n⟩ H).1 c n:=by
 have xa:u.AA≠6000:=λo=>by unfold F6 at w;grind
 let⟨xq,xr,s,x5,xo,Y,xP,Z,xD⟩:=W3 (m:=⟨y,[],0,.h⟩) Q R xl xm
 rw[ZW xD H xa]at w⊢;have xU:=jk R xP Z;have e:=j1 R xl P xU xO xa;have xn:=Q.Bc xq xr xo.hb;have xe:=xn.Ax n s Y;have x3:=xe.some Q;have yb:=(AdN.1 Y).1;have ya:=xn.Av;have xQ:n<1000:=by omega
 have G:c<(DO u ⟨c,n⟩ H).Ac.l:=by rw[e.A7];grind
 have xd:=xo.En (e.Dj.En c xl);have xR:IM y ((DO u ⟨c,n⟩ H).at c) n=s.op:=by unfold IM;rw[xd.Ca,Y];rfl
 have x9:((1000*c+n:D):K)∉Dm u.Am:=λx=>by
  let⟨I,F,xx,xy,xz,xA,xB,xC⟩:=R.W.AV _ x
  grind
 have yi:∀xb∈s.A3.m (Bs (u.at c)),B5 u.Am.l xb:=λxb xS=>by obtain⟨j,_,rfl⟩:=Aeu.1 xS;exact R.W.Bs c j
 have yd:∀h,B5 u.Am.l (Cu (s.A3.m (Bs (u.at c))) h):=λh=>by
  unfold Cu
  cases x:(s.A3.m (Bs (u.at c)))[h]?with
  |none=>exact It _
  |some xb=>grind
 have x4:s.op=8\/s.op=9->(Cu (s.A3.m (Bs (u.at c))) 0).Ak≠0:=wr Z;generalize s.A3.m (Bs (u.at c))=k at*;generalize DO u ⟨c,n⟩ H=g at*;have xs:=e.Am;by_cases U:s.op=8\/s.op=9
 .rw[Af U]at w⊢;let⟨I,F,xt,xi,x6,x7,x8⟩:=xe.call U
  unfold Nb at w⊢;by_cases T:(Cu k 0).Ak=5
  .have xH:¬(Cu k 0).Ak≠5:=by grind
   rw[Ad xH]at w⊢;simp only[AdR]at w⊢;let⟨z,X⟩:=Bb (b:=(g.at c).AG) (a:=n) (by rw[xd.AG];grind)
   rw[X,Aeg];have V:∀j h,EI {g.at c with AG:=(g.at c).AG.set n (z.m λ_=>Cu k 0)} j h=EI (g.at c) j h\/(j=n/\(EI {g.at c with AG:=(g.at c).AG.set n (z.m λ_=>Cu k 0)} j h=Cu k 0\/EI {g.at c with AG:=(g.at c).AG.set n (z.m λ_=>Cu k 0)} j h=AO)):=λj h=>by
    unfold EI E3;show(((((g.at c).AG.set n (z.m λ_=>Cu k 0))[j]?).g [])[h]?).g AO=_\/(j=n/\((((((g.at c).AG.set n (z.m λ_=>Cu k 0))[j]?).g [])[h]?).g AO=_\/(((((g.at c).AG.set n (z.m λ_=>Cu k 0))[j]?).g [])[h]?).g AO=_));by_cases o:j=n
    .subst o
     right
     rw[Aex (AdN.1 X).1,Aeg,Aeo]
     refine⟨B,?_⟩
     cases z[h]?with
     |none=>grind
     |some xb=>grind
    .grind
   have xp:DP g c {g.at c with AG:=(g.at c).AG.set n (z.m λ_=>Cu k 0)}:={
    hi:=G
    En:=⟨B,B,B,B,B,by
     refine AeP λj=> ?_;show((((g.at c).AG.set n (z.m λ_=>Cu k 0))).m List.length)[j]? =_;rw[Aeo,Aeo];by_cases o:j=n;.subst o;rw[Aex (AdN.1 X).1,X];show A ((z.m _).l)=A z.l;rw[Ad9]
     .grind,B,B⟩
    next:=B
    Ar:=⟨λ_ _=>B,λj h x=>by
     rcases V j h with o|⟨o,_⟩;.grind
     .subst o;exact BF (e.Ky h).1 x⟩
    vp:=e.X.W.vp c
    vo:=λj h=>by
     rcases V j h with o|⟨_,o|o⟩;.rw[o];exact e.X.W.vo c j h
     .grind
     .rw[o];exact It _
    f0:=e.X.W.f0 c
    fm:=λ_ x=>x
    Fk:=λj x h=>by
     have x:D9 (g.at c) j=0:=x;rcases V j h with o|⟨o,_⟩;.rw[o];exact(e.X.W.Fk c j x h)
     .subst o;have:=e.AS;omega
    Fo:=λJ j E h=>by
     rcases V j h with o|⟨o,_⟩;.rw[o];exact(e.X.W.Fo J c j E).2 h
     .subst o;exact BF E (e.Hf J)
    B1:=e.X.W.B1 c
    AV:=λj xa Z=>by
     rcases V j 0 with o|⟨o,_⟩;.rw[o];exact(DP.refl e.X.W G).AV j xa Z
     .grind}
   exact⟨e.X.AJ xp,e.Dj.AI (xp.Dj λ_ _=>B),e.AA⟩
  .rw[Af (T:(Cu k 0).Ak≠5)]at w⊢;unfold EO at w⊢;by_cases xK:g.Ac.l=400;.grind
   .rw[Ad xK]at w⊢;rw[xt,AdR,xi]at w⊢;simp only[]at w⊢;have yc:=e.X.W.sh.A7;have xF:=e.X.W.sh.Km (g:={Dl y F I c n 0 with An:=(BG F.An.n AO).set 0 (Cu k 0)}) (u:=g.Am) (w:=g.round) (q:=g.AA) (by omega) ⟨I,F,Vi Q xi _ _ _ _ P⟩ ⟨c,n,g.at c,xr,s,B,B,G,(Di G),⟨xq,xd⟩,Y,U,xt⟩ B (by show 0<=0/\0<=_;omega);have p:=ii (n:=y) (a:=F) (j:=I) (h:=c) (f:=n) (i:=0) (c:=Cu k 0) (d:=g.Am.l) B B (by grind) Om (Q.Bc I F xi).An.1;generalize({Dl y F I c n 0 with An:=(BG F.An.n AO).set 0 (Cu k 0)})=J at*;have xW:(Ai.mk (g.Ac++[J]) g.Am g.round g.AA).Ac.l=g.Ac.l+1:=by grind
    refine⟨⟨(e.X.W.Km xF p G ⟨e.AS,λh=>by rw[(e.Ky h).2];exact⟨λ_=>B,λ_=>(e.Ky h).1⟩⟩ (λxN E=>BF E (e.Hf xN))),λj xw xc h M=> ?_⟩,e.Dj.AI ⟨by grind,B,λh xu=>by rw[FQ,Ad (by omega)];exact DQ.refl _,λh xu=>by rw[FQ,Ad (by omega)];exact IW.refl _,λh j xu _=>by rw[FQ,Ad (by omega)]⟩,e.AA⟩;by_cases o:j=g.Ac.l;.subst o;rw[FQ,Af B,p.Az]at M;omega
    .have xT:=h.1;rw[xW]at xT;have xV:CW g j xw xc:=by have xj:=h.2.1;have xk:=h.2.2;rw[FQ,Ad o]at xj xk;exact⟨by omega,xj,xk⟩
     rw[FQ,Ad o]at M;let⟨xG,xj,xk⟩:=e.X.V j xw xc xV M
     exact⟨xG,by grind,by rw[FQ,Ad (by omega)];grind⟩
 rw[Ad U]at w⊢;by_cases xh:s.op=11
 .rw[Af xh]at w⊢;unfold Eh at w⊢;by_cases xI:(BE g.Am ⟨2,Cu k 0,Cu k 1,Cu k 2,0⟩).e=0
  .have xJ:¬(BE g.Am ⟨2,Cu k 0,Cu k 1,Cu k 2,0⟩).e≠0:=by grind
   rw[Ad xJ];have p:=kG e.X.W.Fj (a:=⟨2,Cu k 0,Cu k 1,Cu k 2,0⟩) B (by grind) (by grind) xI;let⟨x1,x2⟩:=p.kj e.X.W.Jx
   let⟨xY,xZ,yf,yg,x0,yh,ye⟩:=kn (e.X.Yh p.Fj p.A7 (p.Jx e.X.W.Jx P) (λxX xm=>.i (by
    rcases p.sub xX xm with h|⟨h,_⟩;.grind
    .grind))) x1 (λM xv=>by
    have x:=p.F1 M xv;let⟨j,xc,xx,xy,xz,xA,xB,xC⟩:=e.X.W.AV _ x.2.1
    exact⟨j,xc,xx,xy,xz,xA,xB,xC,by rw[x.2.2];exact(show B5 g.Am.l (Cu k 2) by rw[xs];grind).up p.A7,x2 M xv⟩)
   refine⟨xY,e.Dj.AI (H4.AI (g:=⟨g.Ac,(BE g.Am ⟨2,Cu k 0,Cu k 1,Cu k 2,0⟩).m,g.round,g.AA⟩) ⟨CK _,B,λ_ _=>DQ.refl _,λ_ _=>IW.refl _,λ_ _ _ _=>B⟩ (xZ.sub P)),?_⟩;exact x0.t e.AA
  grind
 rw[Ad xh]at w⊢;by_cases T:s.op=5
 .rw[Af T];let⟨xg,xf⟩:=(⟨G,by
   rw[xs];unfold FZ;split;.grind
   .split;.grind
    .exact NW _ (by omega),(e.Ky _).1,e.AS,e.Hf,P⟩:P4 g c n (FZ (Cu k 0) (Cu k 1)).1.n (FZ (Cu k 0) (Cu k 1)).2).cU e.X
  exact⟨xg,e.Dj.AI (xf.sub P),e.AA⟩
 rw[Ad T]at w⊢;by_cases xL:(E7 g ⟨c,n⟩ s k).2.2=0
 .have xM:¬(E7 g ⟨c,n⟩ s k).2.2≠0:=by grind
  rw[Ad xM];have p:=rU e.X G xQ e.AS (e.Ky 0).1 (by grind) xe xR U xh T (by grind) xL;have W:∀h,(E7 g ⟨c,n⟩ s k).1.at h=g.at h:=λh=>by unfold Ai.at;rw[p.Ac]
  have xE:P4 (E7 g ⟨c,n⟩ s k).1 c n 0 (E7 g ⟨c,n⟩ s k).2.1:=⟨by rw[p.Ac];grind,p.ok,by rw[W];exact(e.Ky 0).1,by rw[W];exact e.AS,λJ E=>e.Hf J ⟨by have:=E.1;rw[p.Ac]at this;grind,by rw[<-W];exact E.2.1,by rw[<-W];exact E.2.2⟩,λ_=>p.Ky⟩;let⟨xg,xf⟩:=xE.cU p.X
  refine⟨xg,e.Dj.AI ((p.Dj _).AI (xf.sub P)),?_⟩;exact p.AA.t e.AA
 grind
def bh{e:C Ab}{b:AK}{f:A5}(g:f∈Kf e b c d):∃a:D,f=⟨c,a⟩/\a<d/\IP e b a=L:=by obtain⟨a,h,rfl⟩:=Aeu.1 g;grind
def bg{g:C _}{f:C _}{h:A5}:∀{e:D},h∈JG g f e->∃(c d:D)(b:AK),h=⟨c,d⟩/\c<e/\f[c]? =A b/\IP g b d=L
 |0,a=>by cases a
 |e+1,a=>by
  rcases Aej.1 a with a|a
  .let⟨c,d,b,j,k,l⟩:=bg a
   grind
  .cases i:f[e]?with
   |none=>grind
   |some b=>
    rw[i]at a;let⟨d,m,_,n⟩:=bh a
    grind
def Ve{d:C _}{c:Ai}{e:A5}(i:e∈Br d c):∃a b:D,e=⟨a,b⟩/\a<c.Ac.l/\IP d (c.at a) b=L:=by
 let⟨a,b,j,f,g,h,k⟩:=bg i
 exact⟨a,b,f,g,by rw[DK h];grind⟩
def ip(d:C Ab)(b:AK)(c:D):∀a,(Kf d b c a).Nodup
 |0=>Afp
 |a+1=>by
  rw[cv];refine AfZ.2 ⟨ip d b c a,?_,λg f h k e=> ?_⟩;.grind
  .subst e;let⟨l,i,j,_⟩:=bh f
   grind
def XO(c:C Ab)(b:C AK):∀a,(JG c b a).Nodup
 |0=>Afp
 |a+1=>by
  refine AfZ.2 ⟨XO c b a,?_,λi g j d f=> ?_⟩
  .split;.exact ip c _ a _
   grind
  .subst f
   let⟨n,o,e,k,m,_⟩:=bg g
   cases h:b[a]?with
   |none=>grind
   |some e=>
    rw[h]at d;let⟨p,l,_⟩:=bh d
    grind
def rO{a b:AK}(g:IW a b){f:Au}{e:K}(c:FH a f e=L):FH b f e=L:=by
 have h:∀d,Hi a d=L->Hi b d=L:=λd c=>by rw[cI]at c⊢;rw[g.Eo c];grind
 unfold FH at*;grind
def ce{g:C Ab}{c f:Ai}{j:D->D->Prop}(m:BY g c)(e:H4 c f j){a:D}(d:a<c.Ac.l)(u:¬j a b)(q:IP g (c.at a) b=L):IP g (f.at a) b=L:=by
 let⟨v,w,y,o,h,s,x,t⟩:=ji m d q
 have k:=e.En a d;let⟨p,r⟩:=Bb (b:=(f.at a).AS) (a:=b) (by rw[k.AS];grind)
 have n:p=o:=by have:=e.Qs a b d u;unfold D9 at this;grind
 unfold IP;rw[(h.En k).ha,AdR,h.hb];simp only[];rw[s,r,n];exact rO (e.Ar a d) t
structure kR(d:C Ab)(a b:Ai)(c:D):Prop where
 X:BY d b
 Dj:H4 ⟨a.Ac,a.Am,a.round+1,a.AA⟩ b (λf g=>∃e,e<c/\(Br d a)[e]? =A ⟨(f:K),(g:K)⟩)
 AA:b.AA=a.AA+(c:K)
def Oy{b:C Ab}(m:BD b){a:Ai}(e:BY b a)(r:0<=a.round):∀c,c<=(Br b a).l->(C3 b (Br b a) (a.round+1) ⟨a.Ac,a.Am,a.round+1,a.AA⟩ c).2=0->kR b a (C3 b (Br b a) (a.round+1) ⟨a.Ac,a.Am,a.round+1,a.AA⟩ c).1 c
 |0,_,_=>⟨e.MZ e.W.AA,H4.refl _ _,by show a.AA=a.AA+0;omega⟩
 |c+1,E,g=>by
  let⟨G,h⟩:=Bb (b:=Br b a) (a:=c) (by omega)
  rw[ZY h]at g⊢;by_cases n:(C3 b (Br b a) (a.round+1) ⟨a.Ac,a.Am,a.round+1,a.AA⟩ c).2≠0;.grind
  rw[Ad n]at g⊢;have d:=Oy m e r c (by omega) (AdS n);obtain⟨p,q,rfl,o,s⟩:=Ve (AdU h);have v:¬∃k,k<c/\(Br b a)[k]? =A ⟨p,q⟩:=by
   rintro⟨k,F,t⟩
   have u:(Br b a).Nodup:=XO b a.Ac _
   have:=(Af6 (by omega) u).1 (t.t h.s)
   omega
  have f:=fi m d.X (Aen o d.Dj.A7) (ce (e.MZ e.W.AA:BY b ⟨a.Ac,a.Am,a.round+1,a.AA⟩) d.Dj (a:=p) (b:=q) o v s) (by omega) g;exact⟨f.X,(d.Dj.sub P).AI (f.Dj.sub λw x ⟨y,z⟩=>⟨c,by omega,by grind⟩),by rw[f.AA,d.AA];omega⟩
def rp{c:C Ab}(b:D):(El c a b).1.Am=a.Am/\(El c a b).1.round=a.round/\(El c a b).1.AA=a.AA:=by
 have i:∀a,(Cj c a b).1.Am=a.Am/\(Cj c a b).1.round=a.round/\(Cj c a b).1.AA=a.AA:=λa=>by unfold Cj;simp only[];split<;>exact⟨B,B,B⟩
 have j:∀a,(EU c a b).1.Am=a.Am/\(EU c a b).1.round=a.round/\(EU c a b).1.AA=a.AA:=λa=>⟨B,B,B⟩;have k:∀a d,(JI a b d).1.Am=a.Am/\(JI a b d).1.round=a.round/\(JI a b d).1.AA=a.AA:=λa d=>⟨B,B,B⟩;have l:∀a,(Gu c a b).1.Am=a.Am/\(Gu c a b).1.round=a.round/\(Gu c a b).1.AA=a.AA:=λa=>by
  unfold Gu;simp only[];split
  .split;.grind
   .exact(λa e g f d h=>by
  unfold EO;split;.grind
  .split<;>grind:∀(a:Ai) e g f d h,(EO c a e g f d h).1.Am=a.Am/\(EO c a e g f d h).1.round=a.round/\(EO c a e g f d h).1.AA=a.AA) a _ _ _ _ _
  .grind
 have m:∀a,(Gv c a b).1.Am=a.Am/\(Gv c a b).1.round=a.round/\(Gv c a b).1.AA=a.AA:=λa=>⟨B,B,B⟩;have n:∀a,(ER c a b).1.Am=a.Am/\(ER c a b).1.round=a.round/\(ER c a b).1.AA=a.AA:=λa=>by
  unfold ER;simp only[];split;.grind
  .split;.grind
   .split;.grind
    .grind
 unfold El;simp only[];split<;>grind
def iQ{c:C _}{a:Ai}:∀b,(B9 c a b).1.Am=a.Am/\(B9 c a b).1.round=a.round/\(B9 c a b).1.AA=a.AA
 |0=>⟨B,B,B⟩
 |b+1=>by
  have f:=iQ (c:=c) (a:=a) b;rw[Rx];split;.grind
  .have d:=rp (c:=c) (a:=(B9 c a b).1) b;grind
def gF{d:C _}{f:D}:∀{g:D}{a:Ai}{c:Ai×K},IF d f g a=A c->c.1.Am=a.Am/\c.1.round=a.round/\c.1.AA=a.AA
 |0,a,c,b=>by cases b
 |g+1,a,c,b=>by
  have h:=iQ (c:=d) (a:=a) f;unfold IF at b;split at b;.grind
  .split at b;.have:=gF b;grind
   grind
variable{f:D}
def UH{e:C Ab}{b:Ai×K}(c:Ib e f g a=A b):b.1.Am=a.Am/\b.1.round=a.round/\b.1.AA=a.AA:=by
 unfold Ib at c
 cases d:IF e f g a with
 |none=>grind
 |some h=>rw[d]at c;have:=gF d;grind
structure G8(b:C Ab)(a:Ai):Prop where
 X:BY b a
 r0:0<=a.round
 rf:a.round<=a.AA
 Ld:1<=a.Ac.l
def bw{c:C _}(f:BD c){i:Ai}(j:BY c i):∀b∈i.Ac,P2 c b:=λb l=>by
 let⟨q,n⟩:=Aff.1 l
 let⟨g,h,a⟩:=j.W.sh.BC q b n
 have d:=f.Bc g h a.hb;have:=d.Av;refine⟨g,h,a.ha,a.hb,a.AS,by omega,λs p=> ?_⟩;let⟨r,o⟩:=Aff.1 p
 have e:=d.Ax r s o;have t:=e.some f;exact⟨by omega,λk m=>a.Eo (e.A3 k m),P⟩
variable{k:D}
def VJ{b:C Ab}(g:BD b){l:D}(d:G8 b a)(p:(Br b a).l≠0){f:Ai×K}(c:KH b k l a=A f)(m:f.2=0):G8 b f.1:=by
 unfold KH at c;simp only[]at c;by_cases h:(C3 b (Br b a) (a.round+1) ⟨a.Ac,a.Am,a.round+1,a.AA⟩ (Br b a).l).2=0;.rw[Ad (λj=>j h:¬(C3 b _ _ _ _).2≠0)]at c;have e:=Oy g d.X d.r0 _ Om h;have i:=UH c;have n:f.1.round=a.round+1:=i.2.1.t e.Dj.round;have o:f.1.AA=a.AA+(Br b a).l:=i.2.2.t e.AA;have:=d.r0;have:=d.rf;exact⟨aw g e.X c,by omega,by omega,Aem (Aem d.Ld (e.Dj.A7:a.Ac.l<=_)) (au g e.X.W.sh c).1.A7⟩
 grind
def jx{c:CI}(d:BD c.l)(w:D):P5 c w (G8 c.l)where
 PQ:=λb a=>a.X.W.sh
 Av:=λb a=>bw d a.X
 round:=λb a=>⟨a.r0,by have:=a.rf;have:=a.X.W.AA;omega⟩
 Su:=λb a n I g f=>by
  have F:=(AdN.1 g).1;have e:=Oy d a.X a.r0 n (by omega) f;obtain⟨h,k,rfl,m,u⟩:=Ve (AdU g);have y:¬∃l,l<n/\(Br c.l b)[l]? =A ⟨h,k⟩:=by
   rintro⟨l,G,v⟩
   have x:(Br c.l b).Nodup:=XO c.l b.Ac _
   have:=(Af6 (by omega) x).1 (v.t g.s)
   omega
  let⟨z,q,o,E,_,_,_,_,p⟩:=W3 d e.X (Aen m e.Dj.A7) (ce (a.X.MZ a.X.W.AA:BY c.l ⟨b.Ac,b.Am,b.round+1,b.AA⟩) e.Dj (a:=h) (b:=k) m y u)
  exact⟨e.Dj.round,h,k,_,q,o,_,p⟩
 Th:=λb a f=>(Oy d a.X a.r0 _ Om f).X.W.sh
 Dj:=λb o H a t r s=>VJ d a t r s
def jr{a:D}{e:Ah}(f:b+d<=a):B5 a (EY b c d e):=by
 unfold EY;split;.show BK (b+c) 0 (a-1)=L;unfold BK;simp only[AdO,AdV];omega
 .split<;>rfl
def hE{g i:D}{f:Ah}{d:AE}:∀{c:C _}{b:D},d∈Jd g i f b c->d.AV=[]/\∃(e:K)(h:D),e∈c/\d.I=[EA e,EY g h i f]
 |[],b,a=>by cases a
 |j::c,b,a=>by
  rcases Ad6.1 a with rfl|a;.exact⟨B,j,_,P,B⟩
  .let⟨k,e,h,l,m⟩:=hE a
   grind
structure Bi(a:C AE×C N):Prop where
 st:∀c∈a.1,c.AV=[]/\c.I.l<=100/\∀b∈c.I,B5 a.1.l b
 vs:∀b∈a.2,B5 a.1.l b
def Bi.Dj{b:C _×C _}(f:Bi b){a:C K×Ah}(i:a.1.all I7=L):Bi (NV b a):=by
 have g:(NV b a).1.l=b.1.l+a.1.l:=by show(b.1++Jd _ _ _ _ _).l=_;rw[AdY,U5]
 refine⟨λo m=> ?_,λc e=> ?_⟩
 .rw[g];rcases Aej.1 m with d|d;.have:=f.st o d;exact⟨P,Om,λc e=>(this.2.2 c e).up (by omega)⟩
  .let⟨j,h,n,k,l⟩:=hE d
   refine⟨j,by grind,λc e=> ?_⟩;rw[l]at e;have:c=EA h\/c=EY b.1.l n a.1.l a.2:=by grind
   rcases this with rfl|rfl;.exact Aei.1 i h k
   .exact jr Om
 .rw[g];rcases Aej.1 e with d|d;.exact(f.vs c d).up (by omega)
  .have:c=EY b.1.l 0 a.1.l a.2:=by grind
   subst this;exact jr (c:=0) Om
def dM:∀{b:C (C K×Ah)}{a:C AE×C N},Bi a->(∀d∈b,d.1.all I7=L)->Bi (b.foldl NV a)
 |[],a,c,_=>c
 |d::b,a,c,e=>dM (b:=b) (a:=NV a d) (c.Dj P) P
def wm{a:C AE}(c:∀b∈a,b.AV=[]):Dm a=[]:=by
 unfold Dm
 induction a with
 |nil=>rfl
 |cons b e d=>grind
def dV{a:AQ}(l:a.l.l=a.BT.l)(f:(Co a.l a.BT).2.2=0):Ft (Co a.l a.BT).1/\Dm (Co a.l a.BT).1=[]/\∀p∈(Co a.l a.BT).2.1,B5 (Co a.l a.BT).1.l p:=by
 unfold Co at f⊢;rw[Ad (by omega)]at f⊢;by_cases e:(a.l.all λg=>g.all I7)=Aa;.grind
 rw[Ad e]at f⊢;by_cases k:400<D3 a.l;.grind
 rw[Ad k];have e:(a.l.all λg=>g.all I7)=L:=by grind
 have b:Bi (Kp (a.l.zip a.BT)):=dM ⟨P,P⟩ λo m=>Aei.1 e o.1 (List.of_mem_zip m).1;have j:=Uj (b:=a.l) (c:=a.BT) (a:=a.l.l) Om l;rw[Aeq (by grind),Aeq Om]at j;have h:=wm λd c=>(b.st d c).1;refine⟨Pf.2 ⟨by grind,λd c=>⟨(b.st d c).2.1,OO.2 ⟨(b.st d c).2.2,λq n=>by rw[(b.st d c).1]at n;grind⟩⟩,?_⟩,h,b.vs⟩;show BH (Kp _).1<=6000;rw[PN,h];grind
def cy{e:C Ab}(t:BD e){b:AQ}(m:JS (I8 e) b=0)(n:(Co b.l b.BT).2.2=0):BY e (Ip e b):=by
 let⟨v,w,y,U,E,o,u,J⟩:=cx t m n
 let⟨M,N,Q,R⟩:=Um m
 let⟨s,I,X⟩:=dV (a:=b) (by omega) n
 have g:(Ip e b).at 0={Dl e w v (-1) (-1) 0 with An:=D4::(Co b.l b.BT).2.1}:=by unfold Ip;rw[E,y];rfl
 have l:∀a,1<=a->(Ip e b).at a=Zi:=λa o=>dp o;have F:∀f h c,¬CW (Ip e b) f h c:=λf h c j=>by
  have k:f<1:=j.1;have z:f=0:=by omega
  subst z;have:=j.2.1;rw[g]at this;have this:(-1:K)=(h:K):=this;omega
 have G:∀a d,B5 (Co b.l b.BT).1.l (GQ ((Ip e b).at a) d):=λa d=>by
  by_cases i:1<=a;.rw[l a i];exact It _
  .have:a=0:=by omega
   subst this
   rw[g]
   show B5 _ (((D4::(Co b.l b.BT).2.1)[d]?).g AO)
   cases d with
   |zero=>rfl
   |succ d=>
    show B5 _ (((Co b.l b.BT).2.1[d]?).g AO)
    cases V:(Co b.l b.BT).2.1[d]?with
    |none=>exact It _
    |some W=>grind
 have r:∀a c d,EI ((Ip e b).at a) c d=AO:=λa c d=>by
  by_cases i:1<=a;.rw[l a i];rfl
  .have:a=0:=by omega
   subst this;rw[g];exact T9 _ _ _ _ _
 have Y:∀a c d,Ek ((Ip e b).at a) c d=EQ:=λa c d=>by
  by_cases i:1<=a;.rw[l a i];rfl
  .have:a=0:=by omega
   subst this;rw[g];exact T9 _ _ _ _ _
 have T:∀a c,D9 ((Ip e b).at a) c=0:=λa c=>by
  by_cases i:1<=a;.rw[l a i];rfl
  .have:a=0:=by omega
   subst this;rw[g];exact ch _ _ _
 exact⟨{
  sh:=u
  Fj:=s
  AA:=⟨Afd 0,by show 0<=6000;omega⟩
  vp:=G
  vo:=λa c d=>by rw[r];exact It _
  p0:=λa k=>by
   have k:a<1:=k;have:a=0:=by omega
   subst this;rw[g];show 3≠0;omega
  f0:=λa c=>by grind
  Fk:=λa c _ d=>⟨by rw[r];rfl,P⟩
  Fo:=λf h c j=>P
  B1:=λa c d=>P
  KN:=λf S h c j=>P
  L4:=λa k p=>by
   have k:a<1:=k;have:a=0:=by omega
   subst this;rw[g]at p;exact BF B p
  AV:=λH q=>by have q:H∈Dm (Co b.l b.BT).1:=q;grind
  Jx:=by show(Dm (Co b.l b.BT).1).Nodup;rw[I];grind},λf h c j=>BF j (F f h c)⟩
def PL{b:C Ab}{l m:D}{c:AQ}(k:D5 b=0->BD b){f:Ai×K}(a:JA b l m c=A f)(n:f.2=0):D5 b=0/\G8 b f.1:=by
 unfold JA at a;by_cases h:D5 b=0
 .rw[Ad Om]at a;by_cases i:JS (I8 b) c=0
  .rw[Ad Om]at a;by_cases j:(Co c.l c.BT).2.2=0;.rw[Ad Om]at a;have d:=k h;have g:=cy d i j;have e:=UH a;exact⟨h,aw d g a,by rw[e.2.1];exact Afd 0,by rw[e.2.1,e.2.2];exact Afd 0,(au d g.W.sh a).1.A7⟩
   grind
  grind
 grind
def jz{b:C Ab}(j:BD b){g h:D}:∀{f:D}{c:Ai}{d:Ai×K},G8 b c->HW b g h f c=A d->d.2=0->G8 b d.1
 |0,c,d,i,a,_=>by cases a
 |f+1,c,d,i,a,n=>by
  unfold HW at a;by_cases k:(Br b c).l=0;.grind
  .rw[Ad k]at a
   cases l:KH b g h c with
   |none=>grind
   |some e=>
    rw[l]at a;have a:(if e.2≠0 then A e else HW b g h f e.1)=A d:=a;by_cases m:e.2=0;.rw[Ad Om]at a;exact jz j (VJ j i k l m) a n
    grind
def WZ{a:C _}{e h:D}{i:AQ}(m:D5 a=0->BD a){c:Ai×K}(b:Hr a d e h i=A c)(l:c.2=0):BD a/\G8 a c.1:=by
 unfold Hr at b
 cases g:JA a d e i with
 |none=>grind
 |some f=>
  rw[g]at b;have b:(if f.2≠0 then A f else HW a d e h _)=A c:=b;by_cases k:f.2=0
  .rw[Ad Om]at b;let⟨n,j⟩:=PL m g k
   exact⟨P,jz P j b l⟩
  grind
def jD{c:C Ab}(s:Cl c){l w:D}(t:k=400)(g:AQ)(p:g.l.l<=2000000)(q:D3 g.l<=100000000){e:Ai×K}(h:Hr c k l w g=A e):AY 12 [Z Ab.c c,.S (AQ.c g)] (.AB [.S (C1.c (B7 c e).1),.n (B7 c e).2]):=by
 have m:D5 c=0->BD c:=λj=>HU j;refine g9 s t g p q (j:=λb=>BD c/\G8 c b) (λn r x=> ?_) (λe h f=> ?_) h (λf=> ?_)
 .subst r;have d:=λi=>jx (c:=n) i k;exact{
   PQ:=λb a=>(d a.1).PQ b a.2
   Av:=λb a=>(d a.1).Av b a.2
   round:=λb a=>(d a.1).round b a.2
   Su:=λb a=>(d a.1).Su b a.2
   Th:=λb a=>(d a.1).Th b a.2
   Dj:=λb l e a u j f=>⟨a.1,(d a.1).Dj b l e a.2 u j f⟩}
 .let⟨y,a⟩:=PL m h f
  grind
 .let⟨i,a⟩:=WZ m h f
  refine⟨a.X.W.sh,i,a.X.W.Fj,a.Ld,λz v=> ?_⟩;obtain⟨o,_,rfl⟩:=Aeu.1 v;exact a.X.W.Bs 0 o
def EK{a:Type}(b:a->D)(c:C a):D:=(c.m b).sum
def TN{d:Type}(a:d->D)(c:d)(b:C _):EK a (c::b)=a c+EK a b:=by unfold EK;grind
def VY{g:Type}(c:g->D):∀{a:C _}{d:D}{e:g}(b:g),a[d]? =A e->EK c (a.set d b)+c e=EK c a+c b
 |[],d,e,b,f=>by grind
 |h::a,0,e,b,f=>by cases f;rw[Afs,TN,TN];omega
 |h::a,d+1,e,b,f=>by have:=VY c (a:=a) (d:=d) b (by simpa using f);rw[List.set_cons_succ,TN,TN];omega
def AaC{d:Type}(a:d->D)(b c:C _):EK a (b++c)=EK a b+EK a c:=by unfold EK;grind
def VX{i:Type}{b:i->D}{d:D}:∀{a:C _},(∀c∈a,b c<=d)->EK b a<=d*a.l
 |[],_=>AeA _
 |g::a,e=>by have j:=VX (b:=b) (a:=a) λc h=>e c (Aez _ h);have k:=e g P;rw[TN,Aec,Nat.mul_succ];omega
def Mp(a:N):D:=if a.Ak=0 then 1 else 0
def Lb(a:BA):D:=if a.is=L then 0 else 1
def Je(a:AK):D:=EK Mp a.An+EK (EK Lb) a.A4
def mu(b:D)(a:Ai):D:=EK Je a.Ac+b*(400-a.Ac.l)
def Dn(a b:D)(c:Ah):Prop:=b+(if c=L then 1 else 0)<=a
def Dn.refl(a:D):Dn a a Aa:=by unfold Dn;simp
def Dn.AI{a:D}{d e:Ah}(f:Dn a b d)(g:Dn b c e):Dn a c (d||e):=by unfold Dn at*;grind
def Dn.kp{a:D}{d e:Ah}(f:Dn a b d)(g:Dn b c e):Dn a c (e||d):=by rw[Bool.or_comm];exact f.AI g
def Dn.le{a:D}{d:Ah}(c:Dn a b d):b<=a:=by unfold Dn at c;omega
def Dn.uR{a:D}{d:Ah}(c:Dn a b d):Dn a b Aa:=by have:=c.le;unfold Dn;grind
def rj(a:AK)(c:D)(b:N)(e:c<a.An.l):Dn (Je a) (Je (FG a c b).1) (FG a c b).2:=by
 unfold FG;split;.exact Dn.refl _
 .rename_i g;let⟨d,f⟩:=Bb e
  have h:d.Ak=0:=P;have i:b.Ak≠0:=by grind
  have:=VY Mp b f;have j:Mp d=1:=by unfold Mp;grind
  have k:Mp b=0:=by unfold Mp;grind
  show EK Mp (a.An.set c b)+EK (EK Lb) a.A4+1<=EK Mp a.An+EK (EK Lb) a.A4;omega
def aq(d:AF->N)(c:C AF)(a:AK)(f:c.l<=a.An.l):∀b,Dn (Je a) (Je (Dc d c a b).1) (Dc d c a b).2
 |0=>Dn.refl _
 |b+1=>by
  have g:=aq d c a f b;have h:=(ME d c a b).1;unfold Dc;split;.rename_i i e;have:=(AdN.1 e).1;exact g.kp (rj _ b _ (by rw[h.An];omega))
  omega
def lB{a:AK}{f:N}{b:BA}(n:b.is=L)(h:G6 a.A4 d c):Dn (Je a) (Je (CZ a d c f b).1) (CZ a d c f b).2.1:=by
 unfold CZ;split;.exact Dn.refl _
 .split;.exact Dn.refl _
  .rename_i q r;let⟨e,j,i⟩:=h
   let⟨g,k⟩:=Bb i
   have m:Ek a d c=g:=by unfold Ek;grind
   have o:Lb g=1:=by unfold Lb;grind
   have p:Lb b=0:=by unfold Lb;grind
   have l:CP a.A4 d c b=a.A4.set d (e.set c b):=by unfold CP;grind
   have s:=VY Lb b k;have t:=VY (EK Lb) (e.set c b) j;show EK Mp a.An+EK (EK Lb) (CP a.A4 d c b)+1<=EK Mp a.An+EK (EK Lb) a.A4;grind
def YQ{c:D->N}{e:D}{d:BA}{b:AK}(h:d.is=L){f:D}(g:∀i,i<f->G6 b.A4 e i):∀a,a<=f->Dn (Je b) (Je (Ce c e d b a).1) (Ce c e d b a).2.1
 |0,_=>Dn.refl _
 |a+1,m=>by
  have k:=YQ (c:=c) h g a (by omega);have l:=(Ub c e d b a).1;have j:=lB (f:=c a) h (Of l.A4 (g a (by omega)));unfold Ce;split;.grind
  .split;.grind
   .exact k.AI j
def VB{b:AK}(f:c<a.Ac.l){e:Ah}(g:Dn (Je (a.at c)) (Je b) e):Dn (mu d a) (mu d (a.AJ c b)) e:=by have h:=VY Je b (Di f);unfold Dn mu at*;rw[Ej];have:EK _ (a.AJ c b).Ac=EK Je (a.Ac.set c b):=B;omega
def et{j:C Ab}(f:BD j){c:Ab}{a:AK}(b:Dw j g c a):Je a<=4812:=by
 have e:=f.Bc g c b.hb;have q:EK Mp a.An<=1*a.An.l:=VX λp _=>by unfold Mp;grind
 have r:EK (EK Lb) a.A4<=12*a.A4.l:=VX λd o=>by
  let⟨h,m⟩:=Aff.1 o
  let⟨k,n⟩:=Bb (b:=c.Av) (a:=h) (by rw[<-b.A4];grind)
  have:=b.B1 h k d n m;have:=Rs f k;have:EK Lb d<=1*d.l:=VX λp _=>by unfold Lb;grind
  omega
 have:=b.An;have:=b.A4;have:=e.An;have:=e.Av;unfold Je;omega
def lm{d:C _}(k:BD d){j:D}(i:BY d a)(f:c<a.Ac.l)(q:(a.at c).AP≠-1):Dn (mu j a) (mu j (Cj d a c).1) (Cj d a c).2:=by
 let⟨E,r,m,u,b,h,_⟩:=i.up f q
 let⟨s,o,e⟩:=i.W.sh.BC c _ (Di f)
 let⟨t,g⟩:=b.GZ
 unfold Cj;simp only[];split;.exact Dn.refl _
 .refine VB f (aq _ _ _ ?_ _);unfold QF;rw[h.2.1,h.2.2,AdR,AdR,g.Ca,b.hn,Aeg];let⟨l,n,v,p,w,x,y⟩:=((k.Bc t m g.hb).Ax r u b.hn).call b.op
  have:n=o:=by
   have z:=b.CH;have:l=s:=by have:=e.ha;omega
   subst this;exact Aew (p.s.t e.hb)
  subst this;have:=e.An;omega
def n2{c:C _}(i:BD c){h:D}(f:BY c a)(g:b<a.Ac.l)(l:(a.at b).AP≠-1):Dn (mu h a) (mu h (EU c a b).1) (EU c a b).2.1:=by
 let⟨v,r,p,u,j,e,m⟩:=f.up g l
 let⟨s,k,d⟩:=f.W.sh.BC b _ (Di g)
 let⟨t,n,w,o,x,y⟩:=j.Ga i d
 unfold EU;simp only[e.2.1,e.2.2,AdR,d.Ca];exact VB m (YQ B (f:=k.Bk.l) (λz q=>⟨n,o,by omega⟩) _ Om)
def Aaj{f:C _}(j:BD f){h:D}(d:BY f a)(e:b<a.Ac.l)(m:(a.at b).AP≠-1)(g:N):Dn (mu h a) (mu h (JI a b g).1) (JI a b g).2.1:=by
 let⟨x,t,r,w,k,c,n⟩:=d.up e m
 let⟨u,l,i⟩:=d.W.sh.BC b _ (Di e)
 let⟨v,o,p,q,y,z⟩:=k.Ga j i
 unfold JI;simp only[c.2.1,c.2.2,AdR,p,Aeg];exact VB n (YQ B (f:=l.Bk.l) (λE s=>⟨o,q,by omega⟩) _ (by omega))
def uz{d:C Ab}(m:BD d)(f:BY d a)(h:b<a.Ac.l)(q:(a.at b).next≠-1):Dn (mu k a) (mu k (Gv d a b).1) (Gv d a b).2:=by
 let⟨r,g,i⟩:=f.next h q
 let⟨j,n,c⟩:=f.W.sh.BC b _ (Di h)
 let⟨s,t,e⟩:=f.W.sh.BC r _ (Di i)
 have l:=m.Bc j n c.hb;unfold Gv;simp only[g.next,AdR,c.Ca];refine VB i (aq _ _ _ ?_ _);have o:s=j:=by have:=c.ha;have:=e.ha;have:=g.Bc;omega
 subst o;have p:=Aew (e.hb.s.t c.hb);subst p;have:=e.An;have:=l.A_;omega
def ux{c:C Ab}(h:BD c){e:D}(z:e=5000)(i:BY c a)(j:b<a.Ac.l)(s:(a.at b).AP≠-1):Dn (mu e a) (mu e (Gu c a b).1) (Gu c a b).2.1:=by
 let⟨H,E,w,G,v,u,y⟩:=i.up j s
 let⟨k,g,f⟩:=i.W.sh.BC b _ (Di j)
 unfold Gu;simp only[];split
 .by_cases m:a.Ac.l=400
  .have p:EO c a (a.at b).Bc (a.at b).AP (a.at b).Ax ((a.at b).Az+1) (Et c (a.at b))=(a,5):=by unfold EO;grind
   rw[p];exact Dn.refl _
  .have q:EO c a (a.at b).Bc (a.at b).AP (a.at b).Ax ((a.at b).Az+1) (Et c (a.at b))=(⟨a.Ac++[{Dl c g k (a.at b).AP (a.at b).Ax ((a.at b).Az+1)with An:=(BG g.An.n AO).set 0 (Et c (a.at b))}],a.Am,a.round,a.AA⟩,0):=by
    unfold EO;rw[Ad m,f.ha,AdR,f.hb]
   rw[q]
   have l:¬((0:K)≠0):=by grind
   rw[Ad l]
   have F:=et h (Vi h f.hb (a.at b).AP (a.at b).Ax ((a.at b).Az+1) _ (br (h.Bc k g f.hb).An.1 (Et c (a.at b))))
   generalize({Dl c _ _ _ _ _ with An:=(BG g.An.n AO).set 0 (Et c (a.at b))})=d at*
   have t:(Ai.mk (a.Ac++[d]) a.Am a.round a.AA).Ac.l=a.Ac.l+1:=by grind
   have r:b<(Ai.mk (a.Ac++[d]) a.Am a.round a.AA).Ac.l:=by grind
   have n:(Ai.mk (a.Ac++[d]) a.Am a.round a.AA).at b=a.at b:=by rw[FQ,Ad (by omega)]
   have o:Dn (mu e a) (mu e ⟨a.Ac++[d],a.Am,a.round,a.AA⟩) L:=by
    unfold Dn mu;rw[t];have:EK Je (Ai.mk (a.Ac++[d]) a.Am a.round a.AA).Ac=EK Je a.Ac+Je d:=by show EK _ _=_;rw[AaC,TN];rfl
    rw[this];have x:=i.W.sh.A7;grind
   exact o.AI (VB r (by rw[n];exact Dn.refl _):Dn (mu e ⟨a.Ac++[d],a.Am,a.round,a.AA⟩) (mu e (Ai.AJ ⟨a.Ac++[d],a.Am,a.round,a.AA⟩ b {a.at b with next:=a.Ac.l})) Aa)
 .exact Dn.refl _
def uB{g:C Ab}(d:BD g){h:D}(p:h=5000){b:Ai}(a:BY g b){e:D}(c:e<b.Ac.l)(f:(b.at e).AP≠-1):Dn (mu h b) (mu h (ER g b e).1) (ER g b e).2.1:=by
 let⟨F,x,r,E,k,q,v⟩:=a.up c f
 let⟨z,s,i⟩:=a.W.sh.BC e _ (Di c)
 unfold ER;simp only[];split;.exact Dn.refl _
 .rename_i l;split;.exact Aaj d a c f _
  .rename_i o;have j:=ux d p a c f;split;.grind
   .rename_i w;let⟨t,y,u,m,n⟩:=(XN d a.W.sh (Di c) k i).2.2 (AdS Om)
    exact j.kp (uz d (bs d a c f l o) P (by rw[(DK m),n.next];omega))
def ro{a:C Ab}(f:BD a){e:D}(r:e=5000){b:Ai}(n:BY a b)(g:c<b.Ac.l):Dn (mu e b) (mu e (El a b c).1) (El a b c).2.1:=by
 unfold El;simp only[];split;.exact Dn.refl _
 .rename_i q;have o:=(T7 (c:=a) (Di g)).1;have j:=YM n g;have d:c<(Cj a b c).1.Ac.l:=by rw[o.A7];grind
  have k:((Cj a b c).1.at c).AP≠-1:=by rw[(o.R6 g).1.AP];grind
  let⟨y,v,t,x,m,s,u⟩:=j.up d k
  have p:=(Uw (b:=a) (Di d) m.AP m.Cc).1;have h:=lm f (j:=e) n g q;have i:=n2 f (h:=e) j d k;split;.have:=h.AI i.uR;grind
  .split;.exact h.AI i
   .exact(h.AI i).AI (uB f r (ZP f j d k) (by rw[p.A7];grind) (by rw[(p.R6 d).1.AP];grind))
def iP{c:C Ab}(d:BD c){e:D}(g:e=5000){b:Ai}(f:BY c b):∀a,Dn (mu e b) (mu e (B9 c b a).1) (B9 c b a).2.1
 |0=>Dn.refl _
 |a+1=>by
  have i:=iP d g f a;have h:=Tv d f a;rw[Rx];split;.grind
  .rename_i j;exact i.AI (ro d g h Om)
def gG{d:C Ab}(b:BD d){e h:D}(g:h=5000):∀{f:D}{a:Ai},BY d a->mu h a<f->∃l,IF d e f a=A l
 |0,a,c,k=>by omega
 |f+1,a,c,k=>by
  have i:=iP b g c e;have j:=Tv b c e;unfold IF;split;.grind
  .split;.rename_i m;refine gG b g j ?_;unfold Dn at i;grind
   grind
def uo{c:C Ab}(f:BD c)(n:d=5000){b:Ai}(a:CF c b):mu d b<=2000000:=by
 have m:=VX λg h=>by obtain⟨j,i⟩:=Aff.1 h;obtain⟨k,l,e⟩:=a.BC j g i;have:=et f e;omega
 have:=a.A7;unfold mu;grind
def av{a:C Ab}(c:BD a)(k:2000000<b){e:Ai}(d:BY a e):∃h,Ib a g b e=A h:=by
 obtain⟨i,f⟩:∃i:D,i=5000:=⟨_,B⟩;have:=uo c f d.W.sh;let⟨h,j⟩:=gG c (e:=g) (f:=b) f d (by omega)
 unfold Ib;grind
def wD{b:C Ab}(e:BD b){i:D}(g:2000000<f)(d:G8 b a):∃j,KH b i f a=A j:=by
 unfold KH;simp only[];by_cases c:(C3 b (Br b a) (a.round+1) ⟨a.Ac,a.Am,a.round+1,a.AA⟩ (Br b a).l).2=0;.rw[Ad (λh=>h c:¬(C3 b _ _ _ _).2≠0)];exact av e g (Oy e d.X d.r0 _ Om c).X
 .rw[Af c];grind
def ci{b:C Ab}(g:BD b){i j:D}(l:2000000<j):∀{h:D}{a:Ai},G8 b a->6000-a.AA<h->∃k,HW b i j h a=A k
 |0,a,c,p=>by have:=c.X.W.AA;omega
 |h+1,a,c,p=>by
  unfold HW;by_cases e:(Br b a).l=0;.rw[Af e];grind
  .rw[Ad e];let⟨f,d⟩:=wD g (i:=i) l c
   rw[d];show∃k,(if f.2≠0 then A f else HW b i j h f.1)=A k;by_cases o:f.2=0
   .rw[Ad Om];refine ci g l (VJ g c e d o) ?_;have:f.1.AA=a.AA+(Br b a).l:=by
     unfold KH at d;simp only[]at d;by_cases e:(C3 b (Br b a) (a.round+1) ⟨a.Ac,a.Am,a.round+1,a.AA⟩ (Br b a).l).2=0
     .have n:¬(C3 b (Br b a) (a.round+1) ⟨a.Ac,a.Am,a.round+1,a.AA⟩ (Br b a).l).2≠0:=by grind
      rw[Ad n]at d;exact(UH d).2.2.t (Oy g c.X c.r0 _ Om e).AA
     grind
    omega
   grind
def bH{c:C Ab}{h:D}(g:2000000<f)(a:AQ):∃i,JA c h f a=A i:=by
 unfold JA;by_cases b:D5 c=0
 .rw[Ad Om];by_cases d:JS (I8 c) a=0
  .rw[Ad Om];by_cases e:(Co a.l a.BT).2.2=0;.rw[Ad Om];exact av (HU b) g (cy (HU b) d e)
   .rw[Af e];grind
  .rw[Af d];grind
 .rw[Af b];grind
def n_{b:C Ab}{a:D}(h:2000000<d)(p:6000<a)(j:AQ):∃f,Hr b c d a j=A f:=by
 unfold Hr;let⟨e,i⟩:=bH (c:=b) (h:=c) h j
 rw[i];show∃f,(if e.2≠0 then A e else HW b c d a _)=A f;by_cases k:e.2=0
 .rw[Ad Om];let⟨n,g⟩:=PL (λo=>HU o) i k
  have:=g.X.W.AA;exact ci (HU n) h g (by omega)
 grind
def DM(t:Bm->F)(e:Ai)(a:D):C F:=[.n (e.at a).Bc,.n (e.at a).AP,.n (e.at a).Ax,.n (e.at a).Az,t (.An a),t (.AG a),t (.AS a)]
def GO(a:AK):C F:=[.b (!Ao (a.next= -1))]
def L9(h:G)(t:Bm->F)(e:Ai)(r:C (C (C K))):Bm->Prop
 | .Ac=>Aw h (t .Ac) (DM t e) 7 (List.range e.Ac.l)
 | .An a=>a<e.Ac.l->Aw h (t (.An a)) N.c 2 (e.at a).An
 | .AG a=>a<e.Ac.l->Aw h (t (.AG a)) (EE λb=>t (.AD a b)) 1 (List.range (e.at a).AG.l)
 | .AD a b=>∀c,(e.at a).AG[b]? =A c->Aw h (t (.AD a b)) N.c 2 c
 | .AS a=>a<e.Ac.l->Aw h (t (.AS a)) Be 1 (e.at a).AS
 | .Bn=>Aw h (t .Bn) (EE λa=>t (.A4 a)) 1 (List.range r.l)
 | .A4 a=>∀d,r[a]? =A d->Aw h (t (.A4 a)) (EE λb=>t (.B1 a b)) 1 (List.range d.l)
 | .B1 a b=>∀d c,r[a]? =A d->d[b]? =A c->Aw h (t (.B1 a b)) Be 1 c
 | .Am=>Aw h (t .Am) GO 1 e.Ac
 |_=>True
theorem L9.Ar{h u:G}{t:Bm->F}{e:Ai}{r:C (C (C K))}{i:Bm}(c:L9 h t e r i)(b:∀f,Lv h f->¬As (t i) f->u.M f=h.M f/\Lv u f):L9 u t e r i:=by
 cases i with
 |Ac=>exact Aw.Ar c b
 |An d=>exactλa=>Aw.Ar (c a) b
 |AG d=>exactλa=>Aw.Ar (c a) b
 |AD d o=>exactλg a=>Aw.Ar (c g a) b
 |AS d=>exactλa=>Aw.Ar (c a) b
 |Bn=>exact Aw.Ar c b
 |A4 d=>exactλg a=>Aw.Ar (c g a) b
 |B1 d o=>exactλg a j k=>Aw.Ar (c g a j k) b
 |Am=>exact Aw.Ar c b
 |Ex=>trivial
 |C5=>trivial
 |BC d=>trivial
structure BZ(s:T->Bm)(h:G)(l:C Ab)(x:T)(e:Ai)(r:C (C (C K)))(q:K)(t:Bm->F):Prop where
 M:h.M x=A (.I 8 [Z Ab.c l,t .Ac,Z AE.c e.Am,.n e.round,.n e.AA,t .Bn,t .Am,.n q])
 lv:Lv h x
 B3:s x=.Ex
 tg:∀a,a≠.C5->∀b,¬As (t a) b->Lv h b/\s b=a
 Db:∀a,L9 h t e r a
section
variable{s:T->Bm} {h:G} {l:C Ab} {x:T} {e:Ai} {r:C (C (C K))} {q:K} {t:Bm->F}
theorem BZ.Ar{u:G}(a:BZ s h l x e r q t)(f:∀b,Lv h b->s b≠.C5->u.M b=h.M b/\Lv u b):BZ s u l x e r q t where
 M:=(f x a.lv (by rw[a.B3];grind)).1.t a.M
 lv:=(f x a.lv (by rw[a.B3];grind)).2
 B3:=a.B3
 tg:=λc g b d=>⟨(f b (a.tg c g b d).1 (by rw[(a.tg c g b d).2];grind)).2,(a.tg c g b d).2⟩
 Db:=λc=>by
  by_cases i:c=.C5;.subst i;trivial
  .exact(a.Db c).Ar λj k d=>f j k (by rw[(a.tg c i j d).2];grind)
theorem BZ.ext{u:G}(a:BZ s h l x e r q t)(b:AH h u):BZ s u l x e r q t:=a.Ar P
theorem BZ.Ep{u:G}{c:Ai}{j:C (C (C K))}{f:Bm}(b:BZ s h l x e r q t)(i:EM s h u f)(z:∀d,Lv h d->Lv u d)(k:f≠.Ex)(E:c.Am=e.Am)(H:c.round=e.round)(y:c.AA=e.AA)(J:L9 u t c j f)(I:∀a,a≠f->L9 u t e r a->L9 u t c j a):BZ s u l x c j q t where
 M:=by rw[E,H,y];exact(i x b.lv (by rw[b.B3];grind)).1.t b.M
 lv:=(i x b.lv (by rw[b.B3];grind)).2
 B3:=b.B3
 tg:=λa k o g=>⟨z o (b.tg a k o g).1,(b.tg a k o g).2⟩
 Db:=λa=>by
  by_cases w:a=f;.grind
  .by_cases v:a=.C5;.subst v;trivial
   .exact I _ w ((b.Db a).Ar λd F g=>i d F (by rw[(b.tg a v d g).2];grind))
theorem BZ.Yg{u:G}{j f o:K}{g:C AE}(b:BZ s h l x e r q t)(E:u.M x=A (.I 8 [Z Ab.c l,t .Ac,Z AE.c g,.n j,.n f,t .Bn,t .Am,.n o]))(y:EM s h u .Ex)(v:∀c,Lv h c->Lv u c):BZ s u l x ⟨e.Ac,g,j,f⟩ r o t where
 M:=E
 lv:=v x b.lv
 B3:=b.B3
 tg:=λa w i d=>⟨v i (b.tg a w i d).1,(b.tg a w i d).2⟩
 Db:=λa=>by
  have H:L9 h t ⟨e.Ac,g,j,f⟩ r a:=by have:=b.Db a;cases a<;>exact this
  by_cases z:a=.Ex;.subst z;trivial
  .by_cases k:a=.C5;.subst k;trivial
   .exact H.Ar λc F d=>y c F (by rw[(b.tg a k c d).2];grind)
theorem BZ.Wt(c:BZ s h l x e r q t)(b:D)(a:F)(G:b<8)(z:a.I=[a])(E:Fl a=L){i f d:K}{g:C AE}(w:Dg b [a] [Z Ab.c l,t .Ac,Z AE.c e.Am,.n e.round,.n e.AA,t .Bn,t .Am,.n q]=[Z Ab.c l,t .Ac,Z AE.c g,.n i,.n f,t .Bn,t .Am,.n d]):∃u,AX 1 h [.p x b,a]=A (AC,u)/\BZ s u l x ⟨e.Ac,g,i,f⟩ r d t/\EM s h u .Ex:=by have k:=Gx (d:=b) (a:=a) c.M (by omega) (by omega) z E;rw[w]at k;have j:EM s h (h.set x (.I 8 [Z Ab.c l,t .Ac,Z AE.c g,.n i,.n f,t .Bn,t .Am,.n d])) .Ex:=Rr c.B3 (λH y=>by rw[AN,Ad y]) P;exact⟨_,k,c.Yg (by rw[AN,Af B]) j P,j⟩
theorem BZ.MZ(b:BZ s h l x e r q t)(a:K):∃u,AX 1 h [.p x 4,.n a]=A (AC,u)/\BZ s u l x ⟨e.Ac,e.Am,e.round,a⟩ r q t/\EM s h u .Ex:=b.Wt 4 _ (by omega) B B B
theorem BZ.Yj(b:BZ s h l x e r q t)(a:K):∃u,AX 1 h [.p x 3,.n a]=A (AC,u)/\BZ s u l x ⟨e.Ac,e.Am,a,e.AA⟩ r q t/\EM s h u .Ex:=b.Wt 3 _ (by omega) B B B
theorem BZ.RG(b:BZ s h l x e r q t)(a:K):∃u,AX 1 h [.p x 7,.n a]=A (AC,u)/\BZ s u l x e r a t/\EM s h u .Ex:=b.Wt 7 _ (by omega) B B B
theorem BZ.Cc(i:BZ s h l x e r q t){a:D}(g:a<e.Ac.l):∃b,AR 7 [t .Ac,.n a]=A (.p b (a*7))/\∀c,c<7->h.Ap b (a*7+c)=(DM t e a)[c]? :=by
 let⟨b,d⟩:=CD (f:=DM t e) (w:=7) (λ_=>B) (i.Db .Ac) (F9 g)
 exact⟨b,d.ia,λc j=>d.Ap (f:=DM t e) (w:=7) (λ_=>B) (F9 g) j⟩
theorem Vt{a:T}{c:BV}{b:Bm}(f:s a=b):EM s h (h.set a c) b:=Rr f (λg d=>by rw[AN,Ad d]) P
theorem Ym{h:G}{a:D}{b:AK}(g:a<e.Ac.l)(v:DQ (e.at a) b){i:Bm}(c:L9 h t e r i)(R:i=.An a->b.An=(e.at a).An)(J:∀k,i=.AD a k->b.AG[k]? =(e.at a).AG[k]?)(P:i=.AS a->b.AS=(e.at a).AS)(Q:i=.Am->b.next=(e.at a).next):L9 h t (e.AJ a b) r i:=by
 have w:(e.AJ a b).Ac.l=e.Ac.l:=Ej ..
 cases i with
 |Ac=>
  show Aw h (t .Ac) (DM t (e.AJ a b)) 7 (List.range (e.AJ a b).Ac.l);rw[(funext λc=>by
   unfold DM;rw[E4 g];split;.rename_i d;subst d;rw[v.Bc,v.AP,v.Ax,v.Az]
   grind:DM t (e.AJ a b)=DM t e),w];exact c
 |An j=>intro f;rw[w]at f;have:=c f;rw[E4 g];grind
 |AG j=>
  intro f;rw[w]at f;have:=c f;rw[E4 g];split;.rename_i d;subst d;have:=AdW List.length v.AG;grind
  omega
 |AD j k=>
  intro z o;rw[E4 g]at o;split at o;.rename_i d;subst d;rw[J k B]at o;exact c z o
  .exact c z o
 |AS j=>intro f;rw[w]at f;have:=c f;rw[E4 g];grind
 |Bn=>exact c
 |A4 j=>exact c
 |B1 j k=>exact c
 |Am=>
  have M:(e.AJ a b).Ac.f GO=e.Ac.f GO:=by
   have:(e.AJ a b).Ac.m GO=e.Ac.m GO:=by
    refine AeP λy=> ?_;rw[Aeo,Aeo];show((e.Ac.set a b)[y]?).map GO=_;by_cases d:y=a;.subst d;rw[Aex g,Di g];show A (GO b)=A (GO (e.at y));unfold GO;grind
    grind
   grind
  show Aw h _ _ 1 _;rcases(c:Aw h _ _ 1 _)with⟨F,H⟩|⟨E,d,F,H,N,I⟩;.grind
  .exact .j ⟨E,d,by grind,by grind,by grind,I⟩
 |Ex=>trivial
 |C5=>trivial
 |BC j=>trivial
theorem BZ.Yi(k:BZ s h l x e r q t){a b:D}{E:N}(v:a<e.Ac.l)(j:(e.at a).An[b]? =A E)(g:N):∃d u,AR 2 [t (.An a),.n b]=A (.p d (b*2))/\h.Ap d (b*2)=A (.i .u8 E.Ak)/\h.AL d (b*2) 2=A (N.c E)/\AX 2 h [.p d (b*2),.S (N.c g)]=A (AC,u)/\BZ s u l x (e.AJ a {e.at a with An:=(e.at a).An.set b g}) r q t/\EM s h u (.An a):=by
 have G:=k.Db (.An a) v;let⟨d,i⟩:=CD (f:=N.c) (w:=2) (λ_=>B) G j
 let⟨H,Q⟩:=i.set (f:=N.c) (w:=2) (λ_=>B) G j (c:=g) (g:=.S (N.c g)) B B
 have F:=Vt (h:=h) (c:=.I ((e.at a).An.l*2) (((e.at a).An.set b g).f N.c)) (k.tg (.An a) (by grind) d i.nb).2;refine⟨d,_,i.ia,by exact(i.Ap (f:=N.c) (w:=2) (λ_=>B) j (b:=0) (by omega)),i.AL (f:=N.c) (w:=2) (λ_=>B) j,H,k.Ep F P (by grind) B B B ?_ λR J I=>Ym (b:={e.at a with An:=(e.at a).An.set b g}) v ⟨B,B,B,B,Aed,B,B,B⟩ I P P (λ_=>B) (λ_=>B),F⟩;intro _;rw[HE v];grind
theorem BZ.cp(j:BZ s h l x e r q t){a b:D}{G:K}(k:a<e.Ac.l)(v:(e.at a).AS[b]? =A G)(g:K):∃d u,AR 1 [t (.AS a),.n b]=A (.p d (b*1))/\h.Ap d (b*1)=A (.n G)/\AX 1 h [.p d (b*1),.n g]=A (AC,u)/\BZ s u l x (e.AJ a {e.at a with AS:=(e.at a).AS.set b g}) r q t/\EM s h u (.AS a):=by
 have F:=j.Db (.AS a) k;let⟨d,i⟩:=CD (f:=Be) (w:=1) (λ_=>B) F v
 let⟨H,Q⟩:=i.set (f:=Be) (w:=1) (λ_=>B) F v (c:=g) (g:=.n g) B B
 have E:=Vt (h:=h) (c:=.I ((e.at a).AS.l*1) (((e.at a).AS.set b g).f Be)) (j.tg (.AS a) (by grind) d i.nb).2;refine⟨d,_,i.ia,by exact(i.Ap (f:=Be) (w:=1) (λ_=>B) v (b:=0) (by omega)),H,j.Ep E P (by grind) B B B ?_ λR J I=>Ym (b:={e.at a with AS:=(e.at a).AS.set b g}) k ⟨B,B,B,B,B,B,Aed,B⟩ I P P (λN=>BF N J) (λ_=>B),E⟩;intro _;rw[HE k];grind
theorem BZ.Ga(i:BZ s h l x e r q t){b a:D}{v:C N}(j:b<e.Ac.l)(k:(e.at b).AG[a]? =A v):∃c,AR 1 [t (.AG b),.n a]=A (.p c (a*1))/\h.Ap c (a*1)=A (t (.AD b a)):=by
 have g:=(AdN.1 k).1;let⟨c,d⟩:=CD (f:=EE λa=>t (.AD b a)) (w:=1) (λ_=>B) (i.Db (.AG b) j) (F9 g)
 exact⟨c,d.ia,by exact(d.Ap (f:=EE λa=>t (.AD b a)) (λ_=>B) (F9 g) (b:=0) (by grind))⟩
theorem BZ.PP(E:BZ s h l x e r q t){b d a:D}{j:C N}{F:N}(H:b<e.Ac.l)(I:(e.at b).AG[d]? =A j)(v:j[a]? =A F)(g:N):∃i u,AR 2 [t (.AD b d),.n a]=A (.p i (a*2))/\h.Ap i (a*2)=A (.i .u8 F.Ak)/\h.AL i (a*2) 2=A (N.c F)/\AX 2 h [.p i (a*2),.S (N.c g)]=A (AC,u)/\BZ s u l x (e.AD b d a g) r q t/\EM s h u (.AD b d):=by
 have P:=E.Db (.AD b d) j I;let⟨i,k⟩:=CD (f:=N.c) (w:=2) (λ_=>B) P v
 let⟨Q,Y⟩:=k.set (f:=N.c) (w:=2) (λ_=>B) P v (c:=g) (g:=.S (N.c g)) B B
 have G:=Vt (h:=h) (c:=.I (j.l*2) ((j.set a g).f N.c)) (E.tg (.AD b d) (by grind) i k.nb).2;have S:((e.at b).AD d a g).AG=(e.at b).AG.set d (j.set a g):=TK I a g;have R:d<(e.at b).AG.l:=by grind
 refine⟨i,_,k.ia,by have:=k.Ap (f:=N.c) (w:=2) (λ_=>B) v (b:=0) (by omega);exact this,k.AL (f:=N.c) (w:=2) (λ_=>B) v,Q,E.Ep G (λU V=>by grind) (by grind) B B B ?_ λxa X T=>Ym (b:=(e.at b).AD d a g) H ⟨B,B,B,B,B,TJ _ _ _ _,B,B⟩ T (λ_=>B) (λW U=> ?_) (λ_=>B) (λ_=>B),G⟩;.intro Z J;unfold Ai.AD at J;rw[HE H,S,Aex R]at J;grind
 .grind
theorem BZ.jN(F:BZ s h l x e r q t){a b j:D}{k:C (C K)}{E:C K}{Z:K}(i:r[a]? =A k)(Q:k[b]? =A E)(R:E[j]? =A Z)(H:K):
  ∃I J v u,AR 1 [t .Bn,.n a]=A (.p I (a*1))/\h.Ap I (a*1)=A (t (.A4 a))/\AR 1 [t (.A4 a),.n b]=A (.p J (b*1))/\h.Ap J (b*1)=A (t (.B1 a b))/\
   AR 1 [t (.B1 a b),.n j]=A (.p v (j*1))/\h.Ap v (j*1)=A (.n Z)/\AX 1 h [.p v (j*1),.n H]=A (AC,u)/\BZ s u l x e (r.set a (k.set b (E.set j H))) q t/\EM s h u (.B1 a b):=by
 have Y:=F.Db (.B1 a b) k E i Q
 have W:=(AdN.1 i).1
 have X:=(AdN.1 Q).1
 let⟨I,U⟩:=CD (f:=EE λa=>t (.A4 a)) (w:=1) (λ_=>B) (F.Db .Bn) (F9 W)
 let⟨J,V⟩:=CD (f:=EE λb=>t (.B1 a b)) (w:=1) (λ_=>B) (F.Db (.A4 a) k i) (F9 X)
 let⟨v,c⟩:=CD (f:=Be) (w:=1) (λ_=>B) Y R
 let⟨xb,xe⟩:=c.set (f:=Be) (w:=1) (λ_=>B) Y R (c:=H) (g:=.n H) B B
 have T:=Vt (h:=h) (c:=.I (E.l*1) ((E.set j H).f Be)) (F.tg (.B1 a b) (by grind) v c.nb).2
 refine⟨I,J,v,_,U.ia,by exact(U.Ap (f:=EE λa=>t (.A4 a)) (λ_=>B) (F9 W) (b:=0) (by grind)),V.ia,by exact(V.Ap (f:=EE λb=>t (.B1 a b)) (λ_=>B) (F9 X) (b:=0) (by grind)),c.ia,by exact(c.Ap (f:=Be) (w:=1) (λ_=>B) R (b:=0) (by omega)),xb,F.Ep T P (by grind) B B B ?_ λxc xd d=> ?_,T⟩
 .intro N S g G;grind
 .cases xc with
  |Bn=>show Aw _ _ _ 1 (List.range (r.set a _).l);rw[Aed];exact d
  |A4 c=>
   intro N g;rcases Ik i g with⟨rfl,rfl⟩|⟨_,g⟩;.rw[Aed];exact d k i
   .exact d N g
  |B1 c xa=>
   intro N S g G;rcases Ik i g with⟨rfl,rfl⟩|⟨_,g⟩
   .rcases Ik Q G with⟨rfl,rfl⟩|⟨_,G⟩;.grind
    .exact d k S i G
   .exact d N S g G
  |Ac=>exact d
  |An c=>exact d
  |AG c=>exact d
  |AD c xa=>exact d
  |AS c=>exact d
  |Am=>exact d
  |Ex=>trivial
  |C5=>trivial
  |BC c=>trivial
theorem BZ.TG{i:T->Bm}{u:G}(b:BZ s h l x e r q t)(c:∀a,Lv h a->u.M a=h.M a/\Lv u a/\i a=s a):BZ i u l x e r q t where
 M:=(c x b.lv).1.t b.M
 lv:=(c x b.lv).2.1
 B3:=(c x b.lv).2.2.t b.B3
 tg:=λd f a g=>⟨(c a (b.tg d f a g).1).2.1,(c a (b.tg d f a g).1).2.2.t (b.tg d f a g).2⟩
 Db:=λd=>(b.Db d).Ar P
end
structure EC where
 l:C Ab
 x:T
def Bj(n:EC)(h:G)(e:Ai)(r:C (C (C K)))(q:K)(p:T->Prop):Prop:=∃s t,BZ s h n.l n.x e r q t/\∀a,p a->Lv h a/\s a=.C5
section
variable{n:EC} {h u:G} {e:Ai} {r:C (C (C K))} {q:K} {p m:T->Prop}
theorem Bj.ext(b:Bj n h e r q p)(a:AH h u):Bj n u e r q p:=by
 let⟨s,t,c,d⟩:=b
 exact⟨s,t,c.ext a,P⟩
open Classical in
theorem Bj.V (f:Bj n h e r q p) (c:AH h u):Bj n u e r q (ES p h u):=by
 let⟨s,t,g,i⟩:=f
 refine⟨λa=>if Lv h a then s a else .C5,t,g.TG λa d=>⟨c.M d,c.lv d,Af d⟩,λa b=> ?_⟩;rcases b with b|b;.exact⟨c.lv (i a b).1,by grind⟩
 .grind
theorem Bj.sub(b:Bj n h e r q p)(f:∀a,m a->p a):Bj n h e r q m:=by
 let⟨s,t,c,d⟩:=b
 exact⟨s,t,c,P⟩
theorem Bj.C4(b:Bj n h e r q p){a:T}(f:p a):Lv h a:=by
 let⟨s,t,c,d⟩:=b
 grind
end
section
variable{z:T->Bm} {h:G} {l:C Ab} {x:T} {e:Ai} {v:C (C (C K))} {u:K} {t:Bm->F}
theorem BZ.B0(d:BZ z h l x e v u t){a:D}(g:a<e.Ac.l):∃b,AR 7 [t .Ac,.n a]=A (.p b (a*7))/\AM h [.p b (a*7+0)]=A (.n (e.at a).Bc)/\AM h [.p b (a*7+1)]=A (.n (e.at a).AP)/\AM h [.p b (a*7+2)]=A (.n (e.at a).Ax)/\AM h [.p b (a*7+3)]=A (.n (e.at a).Az)/\AM h [.p b (a*7+4)]=A (t (.An a))/\AM h [.p b (a*7+5)]=A (t (.AG a))/\AM h [.p b (a*7+6)]=A (t (.AS a)):=by
 let⟨b,f,c⟩:=d.Cc g
 exact⟨b,f,c 0 (by omega),c 1 (by omega),c 2 (by omega),c 3 (by omega),c 4 (by omega),c 5 (by omega),c 6 (by omega)⟩
theorem Eg(x:T):Bl 0 [.p x 1]=A (.p x 1):=by rw[EG]
theorem Qx(x:T):Bl 1 [.p x 1]=A (.p x 2):=by rw[EG]
theorem W8(x:T):Bl 2 [.p x 1]=A (.p x 3):=by rw[EG]
theorem Pe(x:T):Bl 3 [.p x 1]=A (.p x 4):=by rw[EG]
theorem Ha(a:T)(b c:D):Bl c [.p a (b*7)]=A (.p a (b*7+c)):=by rw[EG]
theorem BZ.cv(a:BZ z h l x e v u t):h.Ap x 1=A (t .Ac):=Ay a.M 1
theorem UC(J:BZ z h l x e v u t){c:D}(k:c<e.Ac.l)(a:AF){m:N}(b:H0 (e.at c) a=A m):∃G,W9 (pos 66) [.p x 0,.n c,.S (AF.c a)] h=A (.S (N.c m),G)/\AH h G:=by
 let⟨xr,R,xl,xj,o,P,U,xq⟩:=box h (.I 2 (AF.c a))
 let⟨xs,xi,xm,xk,p,Q,xp,W⟩:=box R (.I 2 [.i .u8 0,.n 0])
 have n:=o.AI p;have X:=λT=>W (o.lv T);have d:=J.ext n;have F:=(p.M U).t P;have Z:=F;have xa:=F;have xu:=d.cv;let⟨s,xo,xb,xc,xd,xe,xf,xg,xh⟩:=d.B0 k
 let⟨S,xw,xt,E⟩:=Gy Q m
 refine⟨S,AZ B B ?_,by rw[E];exact n.Gw X _⟩;clear E;rw[hq.1];unfold H0 at b;by_cases y:a.Ax<0
 .rw[Af y]at b;by_cases j:0<=a.AD
  .rw[Af j]at b;let⟨i,q⟩:=CD (f:=N.c) (w:=2) (λ_=>B) (d.Db (.An c) k) b
   have I:AR 2 [t (.An c),.n a.AD]=A (.p i (a.AD.n*2)):=by have:=q.ia;rwa[show a.AD.n=a.AD by omega]at this
   have Y:=q.AL (f:=N.c) (λ_=>B) b;simp only[QY,H (Eg x),H (Ha s c 4), *]
  .grind
 .rw[Ad y]at b;by_cases j:0<=a.AD
  .rw[Af j]at b
   cases g:(e.at c).AG[a.Ax.n]?with
   |none=>rw[g]at b;cases b
   |some V=>
    rw[g]at b;let⟨i,I,xv⟩:=d.Ga k g
    have I:AR 1 [t (.AG c),.n a.Ax]=A (.p i (a.Ax.n*1)):=by grind
    let⟨M,r⟩:=CD (f:=N.c) (w:=2) (λ_=>B) (d.Db (.AD c a.Ax.n) V g) b
    have xn:AR 2 [t (.AD c a.Ax.n),.n a.AD]=A (.p M (a.AD.n*2)):=by have:=r.ia;rwa[show a.AD.n=a.AD by omega]at this
    have Y:=r.AL (f:=N.c) (λ_=>B) b;simp only[QY,hq.2,H (Eg x),H (Ha s c 5), *]
  .grind
structure c7(l:C Ab)(e:Ai)(c d:D)(b:Ab)(f:Au):Prop where
 GZ:∃a:D,(e.at c).Bc=(a:K)/\l[a]? =A b
 hn:b.Av[d]? =A f
theorem Xe(r:BZ z h l x e v u t){g Y:D}(W:g<e.Ac.l){J:Ab}{a:Au}(xd:c7 l e g Y J a){G:C N}(R:Kh (e.at g) a.A3=A G)(xB:a.A3.l<1000000):∃b k,W9 (pos 106) [.p x 0,.n g,.n Y] h=A (b,k)/\Aw k b N.c 2 G/\AH h k/\Dx h b:=by
 let⟨xm,xk⟩:=Yu R
 let⟨⟨xy,xj,xl⟩,xn⟩:=xd
 let⟨b,k,M,E,o,m⟩:=Dh (h:=a.A3.l) (f:=λj b h=>jj W9 106 2 [.p x 0,.n g,Z AF.c a.A3,.n j,b] h) (g:=λj b q=>Aw q b N.c 2 (G.t j)/\AH h q/\Dx h b)
  (λj b q X xc=>by
   let⟨E,o,m⟩:=xc
   let⟨P,V⟩:=Bb X
   let⟨xb,R,xo⟩:=xk V
   have xf:=Cm X;have xw:A9 2 q [.pi (AF.c P)]=A (.S (AF.c P)):=B;let⟨xA,xq,S⟩:=UC (r.ext o) W P R
   have xC:(G.t j).l<=j:=by grind
   let⟨xx,xi,xr,xa,U,xe⟩:=FJ (f:=N.c) (w:=2) (b:=xb) (o:=.S (N.c xb)) (h:=16) (λ_=>B) B B (E.ext S) (DG (by omega))
   rw[FL xo]at xa;have p:=o.AI S;refine⟨xx,xi,?_,xa,λd c=>⟨(U.M (p.lv c) (m d c)).t (p.M c),U.lv (p.lv c) (m d c)⟩,λd c=>xe d (p.lv c) (m d c)⟩;rw[SN.2.2.1];simp only[QY,DF AF.c a.A3,xf,SN.2.2.2.1,IE V,xw,xq,xr,SN.2.2.2.2,Bh (a:=j) (by omega)])
  (b:=.sn) (a:=h) ⟨Aw.sn h,λd c=>⟨B,c⟩,λd _=>Cg d⟩
 have M:jj W9 106 2 [.p x 0,.n g,Z AF.c a.A3,.n 0,.sn] h=jj W9 106 2 [.p x 0,.n g,Z AF.c a.A3,.n a.A3.l,b] k:=M;have xg:=CA a.A3.l;rw[xm,Gz]at E;refine⟨b,k,AZ B B ?_,E,o,m⟩;have xv:=r.cv;have xu:=r.M;let⟨xz,xp,T,_⟩:=r.B0 W
 rw[xj]at T;have xs:AM h [.pi ((Ab.c J).d 2)]=A (Z Au.c J.Av):=B;have xh:Bl 3 [.pi (Au.c a)]=A (.pi ((Au.c a).d 3)):=B;have xt:AM h [.pi ((Au.c a).d 3)]=A (Z AF.c a.A3):=B;rw[SN.1];simp only[QY,xv,xu,xp,T,CB xl,f2,xs,Fa xn,xh,xt];rw[M,SN.2.2.1];simp only[↓Q,↓QT,AdM,↓H (DF AF.c a.A3),xg,SN.2.1]
end
def I3(l:C N):D:=l.countP λa=> !Ao (a.Ak=0)
theorem m8(l:C N)(a:N):I3 (l++[a])=I3 l+(if a.Ak=0 then 0 else 1):=by unfold I3;grind
theorem m7(l:C _):I3 l<=l.l:=List.countP_le_length
theorem m_{b:AK}{d:C AF}:(0<I3 (d.m (Bs b)))↔d.any (Hi b)=L:=by
 unfold I3;rw[List.countP_pos_iff,AfC];constructor
 .rintro⟨g,f,h⟩
  obtain⟨c,a,rfl⟩:=Aeu.1 f;exact⟨c,a,h⟩
 .rintro⟨c,a,h⟩
  exact⟨_,List.mem_map_of_mem a,h⟩
theorem m9{b:AK}{a:C AF}:(I3 (a.m (Bs b))=a.l)↔a.all (Hi b)=L:=by
 unfold I3;have:=List.countP_eq_length (p:=λf:N=> !Ao (f.Ak=0)) (l:=a.m (Bs b));rw[Ad9]at this;rw[this,Aei];constructor;.intro h d c;exact h _ (List.mem_map_of_mem c)
 .intro h f g;obtain⟨d,c,rfl⟩:=Aeu.1 g;exact h d c
theorem wt{b:AK}{c:Au}{a:K}(h:a>0):FH b c a=Aa:=by unfold FH;grind
theorem wo{c:AK}{a:Au}{b:K}(h:¬b>0)(f:a.op=8\/a.op=9){d:N}(i:(a.A3.m (Bs c))[0]? =A d):FH c a b= !Ao (d.Ak=0):=by
 unfold FH
 rw[Ad h,Af f]
 cases g:a.A3 with
 |nil=>grind
 |cons b j=>
  rw[g]at i;have:Bs c b=d:=by grind
  rw[<-this];rfl
theorem wn{b:AK}{a:Au}{c:K}(h:¬c>0)(d:a.op=6):FH b a c=a.A3.any (Hi b):=by unfold FH;grind
theorem ws{b:AK}{a:Au}{c:K}(h:¬c>0)(f:¬(a.op=8\/a.op=9))(d:a.op≠6):FH b a c=a.A3.all (Hi b):=by unfold FH;grind
section
variable{y:T->Bm} {h:G} {l:C Ab} {x:T} {e:Ai} {v:C (C (C K))} {u:K} {t:Bm->F}
theorem BZ.oy(j:BZ y h l x e v u t){b c:D}{i:K}(k:b<e.Ac.l)(g:(e.at b).AS[c]? =A i):∃a,AR 1 [t (.AS b),.n c]=A (.p a (c*1))/\AM h [.p a (c*1)]=A (.n i):=by
 let⟨a,d⟩:=CD (f:=Be) (w:=1) (λ_=>B) (j.Db (.AS b) k) g
 exact⟨a,d.ia,by exact(d.Ap (f:=Be) (w:=1) (λ_=>B) g (b:=0) (by omega))⟩
theorem tX{d:C N}(Y:d.l<1000000){k:F}{g:G}(R:Aw g k N.c 2 d)(m q z:F):jj W9 105 4 [.n 0,m,q,z,.n 0,k] g=jj W9 105 4 [.n (d.l:K),m,q,z,.n (I3 d:K),k] g:=by
 have xa:=Cp R;obtain⟨j,T,V,rfl,rfl⟩:=Dh (h:=d.l) (f:=λc (j:D) h=>jj W9 105 4 [.n (c:K),m,q,z,.n (j:K),k] h) (g:=λc j h=>h=g/\j=I3 (d.t c))
  (λc j h Q S=>by
   obtain⟨rfl,rfl⟩:=S;let⟨M,J⟩:=Bb Q
   have U:=Cm Q;let⟨r,p⟩:=CD (f:=N.c) (w:=2) (λ_=>B) R J
   have xb:AM h [.p r (c*2+0)]=A (.i .u8 M.Ak):=by exact(p.Ap (f:=N.c) (w:=2) (λ_=>B) J (b:=0) (by omega))
   have X:Bl 0 [.p r (c*2)]=A (.p r (c*2+0)):=by rw[EG]
   have Z:I3 (d.t c)<=c:=Aem (m7 _) (by grind);have E:=m8 (d.t c) M;rw[FL J]at E;have W:=F2 (a:=(I3 (d.t c):K)) (b:=1) (by omega) (by omega);by_cases P:M.Ak=0;.rw[Af P]at E;refine⟨I3 (d.t c),h,?_,B,by grind⟩;rw[K2.2.2.2.1];simp only[QY,K2.2.2.2.2.1,H p.ia,K2.2.2.2.2.2.1,H (Bh (a:=c) (by omega)), *]
   .rw[Ad P]at E;refine⟨I3 (d.t c)+1,h,?_,B,by grind⟩;rw[K2.2.2.2.1];simp only[QY,K2.2.2.2.2.1,H p.ia,K2.2.2.2.2.2.1,H (Bh (a:=c) (by omega)),AfD,Int.cast_ofNat_Int, *])
  (b:=0) (a:=g) ⟨B,B⟩
 grind
theorem qY(k:BZ y h l x e v u t){b E:D}(r:b<e.Ac.l){I:Ab}{a:Au}(W:c7 l e b E I a){P:K}(xf:(e.at b).AS[E]? =A P)(xi:Kh (e.at b) a.A3=A (a.A3.m (Bs (e.at b))))(xg:1<=a.A3.l/\a.A3.l<1000000):∃V,W9 (pos 105) [.p x 0,.n b,.n E] h=A (.b (FH (e.at b) a P),V)/\AH h V:=by
 have xG:=k.cv;let⟨xc,xA,xp,xq,xr,xs,xt,xu,j⟩:=k.B0 r
 let⟨xn,xB,xH⟩:=k.oy r xf
 by_cases p:P>0;.rw[wt p];refine⟨h,AZ B B ?_,λxE xh=>⟨B,xh⟩⟩;rw[K2.1];simp only[QY,H (Eg x),H (Ha xc b 6), *]
 .let⟨S,g,xC,R,U,xx⟩:=Xe k r W xi xg.2
  have d:=k.ext U;let⟨xm,z,m,_⟩:=d.B0 r
  let⟨⟨xj,xe,q⟩,s⟩:=W
  rw[xe]at m;have G:AM g [.pi ((Ab.c I).d 2)]=A (Z Au.c I.Av):=B;have xw:Bl 0 [.pi (Au.c a)]=A (.pi ((Au.c a).d 0)):=B;have F:AM g [.pi ((Au.c a).d 0)]=A (.i .u8 a.op):=B;have xD:(a.A3.m (Bs (e.at b))).l=a.A3.l:=by grind
  have xb:=Cp R;have xl:=m_ (b:=e.at b) (d:=a.A3);have xk:=m9 (b:=e.at b) (a:=a.A3);let⟨T,Q⟩:=Bb (b:=a.A3.m (Bs (e.at b))) (a:=0) (by omega)
  let⟨n,X⟩:=CD (f:=N.c) (w:=2) (λ_=>B) R Q
  have xz:AR 2 [S,.n 0]=A (.p n (0*2)):=X.ia;have xy:Bl 0 [.p n (0*2)]=A (.p n (0*2+0)):=by rw[EG]
  have xF:AM g [.p n (0*2+0)]=A (.i .u8 T.Ak):=by exact(X.Ap (f:=N.c) (w:=2) (λ_=>B) Q (b:=0) (by omega))
  have xv:=DW .u8 T.Ak 0;refine⟨g,AZ B B ?_,U⟩;rw[K2.1];simp only[QY,K2.2.1, *];rw[(tX (by omega) R (.p x 0) (.n b) (.n E)),K2.2.2.2.1];simp only[QY,xb,(CA (a.A3.m (Bs (e.at b))).l)];rw[K2.2.2.1];by_cases j:a.op=6;.rw[wn p j];simp only[QY,d.M,d.cv,z,m,CB q,G,Fa s,F,j,(Ew .n (I3 (a.A3.m (Bs (e.at b)))) 0)];grind
  .by_cases Y:a.op=8\/a.op=9
   .rw[wo p Y Q];have xd:jj W9 105 2 [.b L,.n (I3 (a.A3.m (Bs (e.at b)))),S] g=A (.b (!Ao (T.Ak=0)),g):=by rw[K2.2.2.2.2.2.2.2];simp only[QY, *]
    by_cases J:a.op=8;.simp only[QY,Int.reduceEq,d.M,d.cv,z,m,CB q,G,Fa s,F,J];grind
    .have M:a.op=9:=by omega
     simp only[QY,Int.reduceEq,d.M,d.cv,z,m,CB q,G,Fa s,F,j,M];grind
   .rw[ws p Y j];have J:¬a.op=8:=by omega
    have M:¬a.op=9:=by omega
    have xd:jj W9 105 2 [.b Aa,.n (I3 (a.A3.m (Bs (e.at b)))),S] g=A (.b (a.A3.all (Hi (e.at b))),g):=by
     rw[K2.2.2.2.2.2.2.2];simp only[QY,K2.2.2.2.2.2.2.1,xb,(Ch .n (I3 (a.A3.m (Bs (e.at b)))) (a.A3.m (Bs (e.at b))).l)];by_cases xo:a.A3.all (Hi (e.at b))=L;.grind
     .have:a.A3.all (Hi (e.at b))=Aa:=by grind
      rw[this,A2 (by grind)]
    have xa:=Ch .u8 a.op 9;rw[A2 M]at xa;simp only[QY,d.M,d.cv,z,m,CB q,G,Fa s,F,j,J,xa];grind
end
section
variable{z:T->Bm} {h:G} {l:C Ab} {x:T} {e:Ai} {v:C (C (C K))} {u:K} {t:Bm->F}
theorem rC(xg:BD l)(xh:BZ z h l x e v u t){a:D}(E:a<e.Ac.l){V:D}{W:Ab}(k:Dw l V W (e.at a)){J:C A5}(xG:J.l<1000000){c:F}{r:G}(xb:Aw r c A5.c 2 J)(xm:AH h r)(o:Dx h c):∃j m,jj W9 56 4 [.n 0,.n a,.p x 0,c] r=jj W9 56 3 [.n a,.p x 0,j] m/\Aw m j A5.c 2 (J++Kf l (e.at a) a (e.at a).AS.l)/\AH h m/\Dx h j:=by
 have xc:=xg.Bc V W k.hb;have xH:=xc.Av;have xI:=k.AS;let⟨j,m,Y,xE,xe,xB⟩:=Dh (h:=(e.at a).AS.l) (f:=λb c q=>jj W9 56 4 [.n b,.n a,.p x 0,c] q) (g:=λb c q=>Aw q c A5.c 2 (J++Kf l (e.at a) a b)/\AH h q/\Dx h c)
  (λb c q xl xo=>by
   let⟨xb,xd,o⟩:=xo
   let⟨Z,xk⟩:=Bb xl
   let⟨S,xa⟩:=Bb (b:=W.Av) (a:=b) (by omega)
   have xf:=xc.Ax b S xa;have xF:=xf.some xg;have xi:=Cm xl;have d:=xh.ext xd;have T:=d.cv;let⟨xq,P,xs,xt,xu,xv,xw,xx,M⟩:=d.B0 E
   have R:=Cp (d.Db (.AS a) E);let⟨xn,Q,U⟩:=qY d E ⟨⟨V,k.ha,k.hb⟩,xa⟩ xk (k.CQ xf.A3) (by omega)
   have xA:IP l (e.at a) b=FH (e.at a) S Z:=by unfold IP;rw[k.ha,AdR,k.hb];simp only[];rw[xa,xk]
   have p:=xd.AI U;have N:=cv l (e.at a) a b;rw[xA]at N;have xJ:=Yo l (e.at a) a b;by_cases X:FH (e.at a) S Z=L
   .rw[Af X]at N;rw[X]at Q;have xz:Cb [(.n 0),(.n 0)] [(0,1),(1,1)] [.n a,.n b]=A (.S (A5.c ⟨a,b⟩)):=B;let⟨j,xC,xD,xK,xj,xp⟩:=FJ (f:=A5.c) (w:=2) (b:=⟨a,b⟩) (o:=.S (A5.c ⟨a,b⟩)) (h:=16) (λ_=>B) B B (xb.ext U) (DG (by grind))
    refine⟨j,xC,?_,?_,λH g=>⟨(xj.M (p.lv g) (o H g)).t (p.M g),xj.lv (p.lv g) (o H g)⟩,λH g=>xp H (p.lv g) (o H g)⟩;.rw[LL.2.2.2.2.2.1];simp only[QY,T,P,M,R,xi,LL.2.2.2.2.2.2.1,Q,xz,xD,LL.2.2.2.2.2.2.2,Bh (a:=b) (by omega)]
    .grind
   .have xr:FH (e.at a) S Z=Aa:=by grind
    rw[Ad X]at N;rw[xr]at Q;refine⟨c,xn,?_,by rw[N,Ad5];exact xb.ext U,p,o⟩;rw[LL.2.2.2.2.2.1];simp only[QY,T,P,M,R,xi,LL.2.2.2.2.2.2.1,Q,LL.2.2.2.2.2.2.2,Bh (a:=b) (by omega)])
  (b:=c) (a:=r) ⟨by rw[show Kf l (e.at a) a 0=[]from B,Ad5];grind,xm,o⟩
 have Y:jj W9 56 4 [.n 0,.n a,.p x 0,c] r=jj W9 56 4 [.n (e.at a).AS.l,.n a,.p x 0,j] m:=Y;have xy:=CA (e.at a).AS.l;have d:=xh.ext xe;have T:=d.cv;let⟨xq,P,xs,xt,xu,xv,xw,xx,M⟩:=d.B0 E
 have R:=Cp (d.Db (.AS a) E);refine⟨j,m,?_,xE,xe,xB⟩;rw[Y,LL.2.2.2.2.2.1];simp only[QY,T,P,M,R,xy]
theorem qG(E:BD l)(q:BZ z h l x e v u t)(p:CF l e):∃b d,W9 (pos 56) [.p x 0] h=A (b,d)/\Aw d b A5.c 2 (Br l e)/\AH h d/\Dx h b:=by
 have xe:=p.A7;have xc:∀a,a<=e.Ac.l->(JG l e.Ac a).l<=a*400:=λa=>by
  induction a with
  |zero=>intro _;exact CK _
  |succ a Y=>
   intro k;have:=Y (by omega);have r:(JG l e.Ac (a+1)).l=(JG l e.Ac a).l+(match e.Ac[a]?with|some c=>Kf l c a c.AS.l|none=>[]).l:=AdY;let⟨c,M⟩:=Bb (b:=e.Ac) (a:=a) (by omega)
   rw[M]at r;let⟨G,J,m⟩:=p.BC a c M
   have:=(E.Bc G J m.hb).Av;have:=m.AS;have:=Yo l c a c.AS.l;have r:(JG l e.Ac (a+1)).l=(JG l e.Ac a).l+(Kf l c a c.AS.l).l:=r;omega
 let⟨b,d,w,xa,f,U⟩:=Dh (h:=e.Ac.l) (f:=λa b g=>jj W9 56 2 [.p x 0,.n a,b] g) (g:=λa b g=>Aw g b A5.c 2 (JG l e.Ac a)/\AH h g/\Dx h b)
  (λa b g k S=>by
   let⟨xb,f,W⟩:=S
   have T:=Cm k;have j:=q.ext f;have P:=j.cv;have o:=Cp (j.Db .Ac);rw[Ad0]at o;let⟨G,J,m⟩:=p.BC a _ (Di k)
   have:=xc a (by omega);let⟨Q,y,Z,xf,R,V⟩:=rC E q k m (by omega) xb f W
   refine⟨Q,y,?_,?_,R,V⟩;.rw[LL.2.2.1];simp only[QY,P,o,T,LL.2.2.2.1];rw[Z,LL.2.2.2.2.1];simp only[↓H (Bh (a:=a) (by omega))]
   .show Aw y Q A5.c 2 (JG l e.Ac a++_);rw[Di k];grind)
  (b:=.sn) (a:=h) ⟨Aw.sn h,λN X=>⟨B,X⟩,λN _=>Cg N⟩
 have w:jj W9 56 2 [.p x 0,.n 0,.sn] h=jj W9 56 2 [.p x 0,.n e.Ac.l,b] d:=w;have xd:=CA e.Ac.l;have j:=q.ext f;have P:=j.cv;have o:=Cp (j.Db .Ac);rw[Ad0]at o;refine⟨b,d,AZ B B ?_,xa,f,U⟩;rw[LL.1,w,LL.2.2.1];simp only[QY,H (Eg x),LL.2.1, *]
end
