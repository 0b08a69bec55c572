/- Part of the proof. -/
import Derived.Test.YtmnfpdedgnfeiaaGreatMbm
set_option linter.all false
noncomputable section
open Option renaming some->A,getD->Option.g
open _root_ renaming rfl->B,List->C,Nat->D,Int->K,if_neg->Ad,if_pos->Af,absurd->A_,decide_eq_true->Be
open Bool renaming true->L,false->Ac
open List renaming replicate->Bv,length->List.l,map->List.m,take->List.t
open Nat renaming le_refl->C6
open Go.IntKind renaming i64->Go.IntKind.n
open Array renaming toList->Array.l
open Eq renaming trans->Eq.t,symm->Eq.s
open Or renaming inl->Or.i,inr->Or.j
open Int renaming toNat->Int.n
namespace Go.Proofs.YtmnfpdedgnfeiaaGreat
open Go.Fg
structure P0(i:C Ab)(b d:Ah)(e f:D):Prop where
 mo:Mo b d
 Aq:d.Aq=b.Aq+1
 AI:∀a c,a<b.T.l->¬(a=e/\c=f)->BW (d.at a) c=BW (b.at a) c
 SE:0<BW (d.at e) f
 Ep:∀a c,a<b.T.l->BQ (d.at a) c=BQ (b.at a) c
 next:∀a,a<b.T.l->(d.at a).next=(b.at a).next
 FZ:∀a c g,a<b.T.l->BT (d.at a) c g=BT (b.at a) c g
 AB:∀a c g,a<b.T.l->¬(a=e/\c=f)->(AL i b a c).op≠12->Bg (d.at a) c g=Bg (b.at a) c g
 KO:∀a,b.T.l<=a->(∀c,BW (d.at a) c=0)/\(d.at a).next= -1/\(∀c g,(Bg (d.at a) c g).Ai=0/\(BT (d.at a) c g).is=Ac)
 E9:∀h,b.T.l<=h->h<d.T.l->((AL i b e f).op=8\/(AL i b e f).op=9)/\(Am i b e f 0).Ai≠5/\By d h e f/\(d.at h).As=0/\∀a,(BQ (d.at h) a).Ai≠0->a=0/\BQ (d.at h) a=Am i b e f 0
structure KC(d:C Ab)(l:C AG)(a e:Ah)(c b:D):Prop extends P0 d a e c b where
 GH:(AL d a c b).op≠11->∀f h m,f<a.T.l->¬(f=c/\h=b)->Bg (e.at f) h m=Bg (a.at f) h m
 Ao:Rp d l.l e c b
 Q5:∀f h,f<a.T.l->0<BW (a.at f) h->(AL d a f h).op=12->Bg (e.at f) h 0=Ko e.Ae (Am d a f h 0) (Am d a f h 1)
 CC:e.Ae.l=a.Ae.l\/e.Ae.l=a.Ae.l+1/\IA d e c b a.Ae.l
 V:∀g,IA d e c b g->a.Ae.l<=g
 wr:∀g f,(DD e.Ae g f).Ai≠0->(DD a.Ae g f).Ai≠0\/Wr d l e g f (A (c,b))
 Lr:∀g f,Wr d l e g f (A (c,b))->(DD a.Ae g f).Ai=0
 Ms:∀(g:D)(i:AG)(j:BU),a.Ae[g]? =A i->j∈i.AV->(DD e.Ae g j.Cy.n).Ai=0->∃k,e.Ae[g]? =A k/\j∈k.AV
 My:(AL d a c b).op=12->Dp e.Ae (Am d a c b 0) (Am d a c b 1)=L->(FI e.Ae (Am d a c b 0) (Am d a c b 1)).Ai=0->
  ∃i,e.Ae[(Am d a c b 0).n.n]? =A i/\(⟨(Am d a c b 1).n,((1000*c+b:D):K)⟩:BU)∈i.AV
 GA:∀(g:D)(k:AG)(j:BU),e.Ae[g]? =A k->j∈k.AV->(∃i,a.Ae[g]? =A i/\j∈i.AV)\/b<1000/\j.Cq=((1000*c+b:D):K)/\(AL d a c b).op=12/\Am d a c b 0=DB g/\Am d a c b 1=Ed j.Cy
variable{a:D}{b:Ah}{c:D}
def JU.TW{h:C Ab}{l:C AG}{n:C M}(o:Bj h)(p:Bn h b)(i:JU h l n b):∀{m},Wr h l b a c m->(DD b.Ae a c).Ai≠0/\∀f g,m=A (f,g)->DD b.Ae a c=Am h b f g 2
 |none,e=>⟨by rw[i.Ae.Ms a c e];exact e,λf g e=>by cases e⟩
 |some (f,g),e=>by
  obtain⟨j,q,k,r,s,_⟩:=e;have d:=(i.Ao f g j k).store q;rw[r,s]at d;have t:Dp b.Ae (DB a) (Ed c)=L:=by unfold Dp;rw[Qg (show 0<=(DB (a:K)).n from Ai8 a)];have:((D5 b.Ae (DB (a:K)).n.n).l:K)=(D5 b.Ae a).l:=B;rw[this];unfold BY;simp only[Aie,Ain];refine⟨B,B,Ai8 c,?_⟩;show(c:K)<=_;omega
  have d:=d t;rw[KE (show 0<=(DB (a:K)).n from Ai8 a)]at d;have d:DD b.Ae a c=Am h b f g 2:=d;refine⟨by rw[d];exact i.AT o p j k 2 (by omega) (by omega),λv w u=> ?_⟩;cases u;exact d
def JU.KI{j:C Ab}{G:C AG}{xn:C M}(N:Bj j){f E:Ah}(u:Bn j f)(xZ:Bn j E){k m:D}(R:k<f.T.l)(x6:BW (f.at k) m=0)(xI:(AL j f k m).op=12\/(AL j f k m).op=11->(Am j f k m 0).Ai≠0/\(Am j f k m 1).Ai≠0)(h:KC j G f E k m)(o:JU j G xn f):JU j G xn E:=by
 have b:=h.mo;have xa:∀{a c},0<BW (E.at a) c->a<f.T.l:=λ{a c} i=>by
  rcases AiS a f.T.l with r|r;.omega
  .rw[(h.KO a r).1 c]at i;omega
 have xb:∀{a c},0<BW (E.at a) c->¬(a=k/\c=m)->0<BW (f.at a) c:=λ{a c} i S=>by rw[<-h.AI a c P S];omega
 have x1:∀{a c d},IA j E a c d->¬(a=k/\c=m)->IA j f a c d:=λ{a c d} ⟨g,s,y,H⟩ S=>by have t:=xa y;rw[b.Ao t]at s;exact⟨t,s,P,by rw[<-h.AB a c 0 t S (by omega)];omega⟩
 have x2:∀{a c d},IA j f a c d->IA j E a c d:=λ{a c d} ⟨g,s,y,H⟩=>
  ⟨Aik g b.AX,by rw[b.Ao g];omega,b.fm a c g y,by rw[h.AB a c 0 g P (by omega)];omega⟩
 have x3:∀{a c d},IA j f a c d->d<f.Ae.l:=λ{a c d} ⟨g,s,y,H⟩=>by have:=u.W.vo a c 0;rw[H]at this;exact(Ow this B).2
 have yg:∀{d a q p},Wr j G E d a (A (q,p))->¬(q=k/\p=m)->Wr j G f d a (A (q,p)):=λ{d a q p} ⟨g,s,y,H,V,W,X⟩ S=>by have Y:=xa y;rw[b.Ao Y]at s;have Z:=xb y S;have xt:=o.AT N u Y Z;have xx:=(b.Am (e:=j) Y P).s.t H;have T:=Nw u q p 0;rw[xx]at T;have xr:d<f.Ae.l:=(Ow T B).2;rw[b.Ae.BG d xr]at X;exact⟨Y,s,Z,xx,((b.Am (e:=j) Y P).s.t V),xr,X⟩
 have yh:∀{d a n},Wr j G f d a n->Wr j G E d a n:=λ{d a n} i=>by
  cases n with
  |none=>exact i
  |some n=>obtain⟨q,p⟩:=n;obtain⟨g,s,y,H,V,W,X⟩:=i;have xt:=o.AT N u g y;exact⟨Aik g b.AX,by rw[b.Ao g];omega,b.fm q p g y,(b.Am g P).t H,(b.Am g P).t V,Aik W b.Ae.AX,by rw[b.Ae.BG d W];omega⟩
 exact{
  F_:=Aik Om b.AX
  DL:=by rw[(b.BG 0 Om).AN,(b.BG 0 Om).A4];exact o.DL
  L4:=λa=>(h.Ep 0 a Om).t (o.L4 a)
  Ep:=λz w c x xV a t=>by
   rcases AiS z f.T.l with r|r
   .have e:=b.BG z r;have xe:By f z w c:=⟨r,e.AN.s.t x.2.1,e.Ao.s.t x.2.2⟩;have xJ:w<f.T.l:=by
     obtain⟨xQ,x7,p,S,xY,xz,U⟩:=u.up Om (by rw[xe.2.1];omega);have:xQ=w:=by have:=xe.2.1;have:=xz.2.1;omega
     omega
    rw[h.Ep z a r]at t⊢;have:=o.Ep z w c xe (by rw[<-b.As r];omega) a t;rw[b.Am xJ (by grind),this]
   .obtain⟨x8,x9,xu,ya,xM⟩:=h.E9 z r x.1;obtain⟨xW,xX⟩:=xM a t;have xD:w=k:=by have:=x.2.1;have:=xu.2.1;omega
    have xE:c=m:=by have:=x.2.2;have:=xu.2.2;omega
    subst xD;subst xE;subst xW;rw[xX]at t⊢;exact b.Am R t
  L5:=λr z F xi a t=>by
   rcases AiS r f.T.l with e|e
   .rw[h.next r e]at xi;obtain⟨xh,xB,xH⟩:=u.next e (by omega);have:xh=z:=by have:=xB.next;omega
    subst this;rw[h.Ep xh a xH]at t⊢;obtain⟨xF,x4,xG⟩:=o.L5 r xh e xi a t;exact⟨xF,by rw[b.BB e];omega,by rw[b.Dv e (by grind),xG]⟩
   .rw[(h.KO r e).2.1]at xi;omega
  BS:=λw c a i=>by
   rcases AiS w f.T.l with e|e
   .rw[h.FZ w c a e]at i⊢;obtain⟨z,x,xV,d⟩:=o.BS w c a i;have xj:(Bg (f.at w) c a).Ai≠0:=λxm=>by have:=((u.W.CX z w c x).2 a).1 xm;grind
    have xP:=(b.Av w e).Aw c a xj;refine⟨z,b.CX x,by rw[b.As x.1];omega,?_⟩;rw[xP,b.BB x.1];rcases d with⟨xo,xp,xC⟩|⟨xo,xp,xC,x0⟩;.exact .i ⟨xo,xp,by rw[b.Cm x.1 (by grind)];omega⟩
    .rw[b.EO x.1 (by omega)];grind
   .rw[((h.KO w e).2.2 c a).2]at i;grind
  Ao:=λa c t i=>by
   by_cases e:a=k/\c=m;.obtain⟨rfl,rfl⟩:=e;exact h.Ao
   .have v:=xa i;have g:=xb i e;exact(o.Ao a c v g).up u b v (λx5 I xl=>h.AB a c xl v e I) (λI=>h.Q5 a c v g I) (λxl xL F=>dC N u v (ZA (by omega)) xl xL F)
  Ae:=o.Ae.AQ b.Ae
  CC:=λd g s=>by
   by_cases r:d<f.Ae.l;.obtain⟨_⟩:=o.CC d g r;grind
   .rcases h.CC with e|⟨xc,xd⟩<;>grind
  C3:=λq p xf xg d i U=>by
   by_cases e:q=k/\p=m
   .by_cases J:xf=k/\xg=m;.omega
    .obtain⟨rfl,rfl⟩:=e;have:=h.V d i;grind
   .by_cases J:xf=k/\xg=m;.obtain⟨rfl,rfl⟩:=J;have:=h.V d U;grind
    .exact o.C3 q p xf xg d P P
  wr:=λd a i=>by
   rcases h.wr d a i with e|e;.obtain⟨n,xs⟩:=o.wr d a e;grind
   grind
  Lr:=λd a n xy i U=>by
   have xv:∀n,Wr j G E d a n->n=A (k,m)\/Wr j G f d a n:=λn i=>by
    cases n with
    |none=>exact .j i
    |some n=>grind
   rcases xv n i with e|e<;>rcases xv xy U with J|J;.grind
   .subst e;exact A_ (h.Lr d a i) (o.TW N u J).1
   .subst J;exact A_ (h.Lr d a U) (o.TW N u e).1
   .exact o.Lr d a n xy e J
  My:=λa c t I Z Q F=>by
   have v:=xa Z;rw[b.Ao v]at I;by_cases e:a=k/\c=m;.obtain⟨rfl,rfl⟩:=e;obtain⟨xj,xO⟩:=xI Om;rw[b.Am v xj,b.Am v xO]at Q F⊢;exact h.My I Q F
   .have xq:=xb Z e;have xt:=o.AT N u v xq;rw[b.Am v P,b.Am v P]at Q F⊢;have T:=Nw u a c 0;rw[b.Ae.FM T]at Q;have yb:=O2 Q;have yf:=Ow T Om;obtain⟨xk,xT,xU⟩:=o.My a c v I xq Q (Aih λxm=>by rw[b.Ae.Cy T Om xm]at F;omega:(FI f.Ae (Am j f a c 0) (Am j f a c 1)).Ai=0)
    rw[KE Om]at F;exact h.Ms _ xk _ xT xU F
  GA:=λd xS n xK xs=>by
   rcases h.GA d xS n xK xs with⟨xk,xc,xd⟩|⟨xc,xd,yd,ye,xR⟩;.obtain⟨q,p,g,s,y,H,V,W,X⟩:=o.GA d xk n xc xd;exact⟨q,p,Aik g b.AX,s,y,by rw[b.Ao g];omega,b.fm q p g V,by rw[b.Am g (by rw[W];exact(by omega:(4:Int)≠0))];omega,by rw[b.Am g (by rw[X];exact(by omega:(1:Int)≠0))];omega⟩
   .exact⟨k,m,Aik R b.AX,xc,xd,by rw[b.Ao R];omega,h.SE,by rw[b.Am R (by omega)];omega,by rw[b.Am R (by omega)];exact xR⟩
  Hu:=by
   obtain⟨xA,xN,yc,xw⟩:=o.Hu;refine⟨(k,m)::xA,AjM.2 ⟨λi=> ?_,xN⟩,?_,λq p=> ?_⟩;.have:=((xw k m).1 i).2;omega
   .rw[AiD,h.Aq];omega
   .rw[Ait,xw q p];constructor
    .rintro(i|⟨g,s⟩)
     .cases i;exact⟨Aik R b.AX,h.SE⟩
     .exact⟨Aik g b.AX,b.fm q p g s⟩
    .rintro⟨g,s⟩
     by_cases e:q=k/\p=m;.obtain⟨rfl,rfl⟩:=e;exact .i B
     .exact .j ⟨xa s,xb s e⟩}
structure IZ(d:C Ab)(a:Ah)(b c:D):Prop where
 hi:b<a.T.l
 hj:c<(a.at b).AI.l
 zero:BW (a.at b) c=0
 Mi:∃g f,DU d g f (a.at b)/\f.Ay[c]? =A (AL d a b c)/\Ib d f c (AL d a b c)
 AT:¬((AL d a b c).op=8\/(AL d a b c).op=9)->(AL d a b c).op≠6->∀e,e<(AL d a b c).AT.l->(Am d a b c e).Ai≠0
 EO:(AL d a b c).op=8\/(AL d a b c).op=9->(Am d a b c 0).Ai≠0
 some:(AL d a b c).op=6->∃e,e<2/\(Am d a b c e).Ai≠0
variable{d:C Ab}
def ZU(s:Bj d)(k:Bn d b){f g:D}(n:f<b.T.l)(w:Gb d (b.at f) g=L):IZ d b f g:=by
 obtain⟨l,m,q,u,h,o,v,a⟩:=ZY k n w;have c:AL d b f g=q:=by unfold AL;rw[h.BB,o];rfl
 have r:=(s.A4 l m h.hb).Ao g q o;refine⟨n,P,ei k v a,⟨l,m,h,by grind,by grind⟩,?_,?_,?_⟩;.rw[c];intro j i p e;have:=lI a j i;unfold Am;rw[I9,c,AiW e];grind
 .rw[c];intro j;have:=lJ a j;rw[<-Nv];unfold Dr;grind
 .rw[c];intro i;unfold FB at a;by_cases t:u>0;.grind
  .rw[Ad t,Ad (by omega),Af i]at a;obtain⟨E,y,x⟩:=Ajv.1 a;obtain⟨p,e⟩:=Ajh.1 y;have z:=r.KU (by omega);have:=(Aid.1 e).1;refine⟨p,by omega,?_⟩;unfold Am;rw[I9,c,e];exact U3.1 x
def oq{a:Ah}(d:b.T=a.T)(c:D):b.at c=a.at c:=by unfold Ah.at;grind
def bZ{c:Ah}{b:D}(i:a<c.T.l){e:K}(j:c.Aq≠6000):Ev d c ⟨a,b⟩ e=(if(AL d c a b).op=8\/(AL d c a b).op=9 then H0 d (Bm c ⟨a,b⟩ e) ⟨a,b⟩ (AL d c a b) (Am d c a b 0)else if(AL d c a b).op=11 then((DE (Bm c ⟨a,b⟩ e) ⟨2,Am d c a b 0,Am d c a b 1,Am d c a b 2,0⟩).1,(DE (Bm c ⟨a,b⟩ e) ⟨2,Am d c a b 0,Am d c a b 1,Am d c a b 2,0⟩).2.2)else if(AL d c a b).op=5 then((Bm c ⟨a,b⟩ e).Aw a b (D1 (Am d c a b 0) (Am d c a b 1)).1.n (D1 (Am d c a b 0) (Am d c a b 1)).2,0)else if(CV (Bm c ⟨a,b⟩ e) ⟨a,b⟩ (AL d c a b) (Dr d c a b)).2.2≠0 then((CV (Bm c ⟨a,b⟩ e) ⟨a,b⟩ (AL d c a b) (Dr d c a b)).1,(CV (Bm c ⟨a,b⟩ e) ⟨a,b⟩ (AL d c a b) (Dr d c a b)).2.2)else((CV (Bm c ⟨a,b⟩ e) ⟨a,b⟩ (AL d c a b) (Dr d c a b)).1.Aw a b 0 (CV (Bm c ⟨a,b⟩ e) ⟨a,b⟩ (AL d c a b) (Dr d c a b)).2.1,0)):=by
 have f:(Bm c ⟨a,b⟩ e).at a={c.at a with AI:=(c.at a).AI.set b e}:=by show(c.AM a {c.at a with AI:=(c.at a).AI.set b e}).at a=_;exact Hc i
 have g:((Ch d ((Bm c ⟨a,b⟩ e).at a)).Ay[b]?).g M6=AL d c a b:=by rw[f];rfl
 have h:(AL d c a b).AT.m (A9 ((Bm c ⟨a,b⟩ e).at a))=Dr d c a b:=by rw[f];rfl
 unfold Ev;rw[Ad j];simp only[Aif,g,h,Nv]
def b0{p:C Ab}{c h:Ah}(G:Bn p c){d g:D}(s:IZ p c d g){j:K}(N:0<j){k:C (C M)}(v:h.T=c.T.set d {c.at d with AI:=(c.at d).AI.set g j,AB:=k})(y:∀b f,b≠g->EQ k b f AK=Bg (c.at d) b f){u:D->D->Prop}(t:Fc c h u)(w:h.Aq=c.Aq+1)(x:Fl c.Ae h.Ae):P0 p c h d g/\(∀f,Bg (h.at d) g f=EQ k g f AK)/\∀a b f,a<c.T.l->¬(a=d/\b=g)->Bg (h.at a) b f=Bg (c.at a) b f:=by
 have S:h.T.l=c.T.l:=by grind
 have o:∀a,h.at a=if a=d then{c.at d with AI:=(c.at d).AI.set g j,AB:=k}else c.at a:=λa=>by rw[oq (a:=c.AM d {c.at d with AI:=(c.at d).AI.set g j,AB:=k}) v,Ee s.hi]
 have n:∀{F:Type}(m:AP->F),(m {c.at d with AI:=(c.at d).AI.set g j,AB:=k}=m (c.at d))->∀a,m (h.at a)=m (c.at a):=P;have I:∀a b,BW (h.at a) b=if a=d/\b=g then j else BW (c.at a) b:=λa b=>by
  rw[o];by_cases r:a=d
  .subst r;rw[Af B];show((((c.at a).AI.set g j)[b]?).g 0)=_;by_cases E:b=g;.subst E;rw[Af ⟨B,B⟩,AiF s.hj];rfl
   .rw[Ad Om,AiU Om];rfl
  grind
 have z:∀a b f,¬(a=d/\b=g)->Bg (h.at a) b f=Bg (c.at a) b f:=λa b f q=>by
  rw[o];by_cases r:a=d;.subst r;rw[Af B];exact y b f Om
  grind
 refine⟨{
  mo:={
   AX:=by omega
   BG:=t.BG
   Av:=t.Av
   nx:=λa i _=>P
   fm:=λa b i J=>by grind
   FZ:=λa b f i _=>n (λl=>BT l b f) B a
   Ae:=x}
  Aq:=w
  AI:=λa b i q=>by grind
  SE:=by grind
  Ep:=λa b i=>n (λl=>BQ l b) B a
  next:=λa i=>P
  FZ:=λa b f i=>n (λl=>BT l b f) B a
  AB:=λa b f i q _=>z a b f q
  KO:=λa i=>by have:h.at a=Qi:=Nk (by omega);rw[this];exact⟨λ_=>B,B,λ_ _=>⟨B,B⟩⟩
  E9:=λH Q R=>by omega},λf=> ?_,P⟩
 rw[o,Af B];rfl
def Acj{c e:C AG}(i:∀f,f<c.l->D5 e f=D5 c f){a b:M}(g:BN c.l a):Ko e a b=Ko c a b:=by
 unfold Ko;by_cases j:a.Ai=4
 .let⟨d,h⟩:=Ow g j
  have k:Dp e a b=Dp c a b:=by unfold Dp;rw[Qg d,Qg d,(i _ h)]
  have l:FI e a b=FI c a b:=by rw[KE d,KE d];unfold DD;grind
  grind
 grind
def Fl.of{a c:C AG}(d:a.l<=c.l)(f:∀b,b<a.l->D5 c b=D5 a b):Fl a c:=
 ⟨d,P,λb g e=>by have:=(Vu e).1;unfold DD;grind⟩
def Afg{f:C Ab}{j:C AG}{a:Ah}{b e d:D}(g:Wr f j a b e (A (c,d))):Dp a.Ae (Am f a c d 0) (Am f a c d 1)=L:=by obtain⟨k,l,m,h,i,_⟩:=g;rw[h,i];unfold Dp;rw[Qg (show 0<=(DB (b:K)).n from Ai8 b)];have:((D5 a.Ae (DB (b:K)).n.n).l:K)=(D5 a.Ae b).l:=B;rw[this];unfold BY;simp only[Aie,Ain];refine⟨B,B,Ai8 e,?_⟩;show(e:K)<=_;omega
def dL{q:C AG}{l:C M}{c e:Ah}(m:Bn d c)(k:JU d q l c){h i:D}(s:BW (c.at h) i=0)(r:∀a b j,a<c.T.l->¬(a=h/\b=i)->Bg (e.at a) b j=Bg (c.at a) b j)(p:∀f,f<c.Ae.l->D5 e.Ae f=D5 c.Ae f):∀a b,a<c.T.l->0<BW (c.at a) b->(AL d c a b).op=12->Bg (e.at a) b 0=Ko e.Ae (Am d c a b 0) (Am d c a b 1):=λa b g o n=>by rw[r a b 0 g P,Acj p (Nw m a b 0)];exact(k.Ao a b g o).AU n
def P0.NQ{m:C AG}{s:C M}{a g:Ah}(t:Bn d a)(r:JU d m s a){b:D}(i:IZ d a b c)(h:P0 d a g b c)(p:∀e n q,e<a.T.l->¬(e=b/\n=c)->Bg (g.at e) n q=Bg (a.at e) n q)(o:g.Ae=a.Ae)(x:Rp d m.l g b c)(w:(AL d a b c).op=10->(Bg (g.at b) c 0).Ai≠4)(F:(AL d a b c).op=11->Dp a.Ae (Am d a b c 0) (Am d a b c 1)=L->False)(E:(AL d a b c).op=12->Dp a.Ae (Am d a b c 0) (Am d a b c 1)=L->(FI a.Ae (Am d a b c 0) (Am d a b c 1)).Ai≠0)(G:(AL d a b c).op=11->∀e,e<2->(Am d a b c e).Ai≠0):KC d m a g b c where
 toP0:=h
 GH:=λ_=>p
 Ao:=x
 Q5:=dL t r i.zero p P
 CC:=.i (by rw[o])
 V:=λk j=>by obtain⟨l,f,u,v⟩:=j;rw[h.mo.Ao i.hi]at f;exact A_ (by rw[v];rfl) (w f)
 wr:=λk e j=>P
 Lr:=λk e j=>by have f:=j.2.1;rw[h.mo.Ao i.hi]at f;have:=Afg j;rw[h.mo.Am i.hi P,h.mo.Am i.hi P,o]at this;grind
 Ms:=λk y z l f _=>⟨y,by grind,f⟩
 My:=λl f u=>by grind
 GA:=λk H z l f=>P
def QM{c:C Ab}{n:D}{d f:Ah}{b:D}(g:IZ c d b a)(m:Mo d f)(i:¬((AL c d b a).op=8\/(AL c d b a).op=9))(H:(AL c d b a).op=11->Dp f.Ae (Am c d b a 0) (Am c d b a 1)=L->FI f.Ae (Am c d b a 0) (Am c d b a 1)=Am c d b a 2)(I:(AL c d b a).op=5->∀e,Bg (f.at b) a e=if e=(D1 (Am c d b a 0) (Am c d b a 1)).1.n then(D1 (Am c d b a 0) (Am c d b a 1)).2 else AK)(G:(AL c d b a).op=12->Bg (f.at b) a 0=Ko f.Ae (Am c d b a 0) (Am c d b a 1))(v:(AL c d b a).op=10->(I0 (Am c d b a 0)=L->∃k:D,Bg (f.at b) a 0=DB k/\n<=k/\k<f.Ae.l/\(D5 f.Ae k).l=(Am c d b a 0).n.n)/\(I0 (Am c d b a 0)=Ac->Bg (f.at b) a 0=(C7 [] (Am c d b a 0)).2.1))(E:(AL c d b a).op=6->∃e,e<2/\(Am c d b a e).Ai≠0/\Bg (f.at b) a 0=Am c d b a e)(F:(AL c d b a).op=1\/(AL c d b a).op=2\/(AL c d b a).op=3\/(AL c d b a).op=4\/(AL c d b a).op=7\/(AL c d b a).op=13\/(AL c d b a).op=14->Bg (f.at b) a 0=M9 f.Ae (AL c d b a) (Dr c d b a)):Rp c n f b a:=by
 have o:=m.Ao (e:=c) (d:=a) g.hi;obtain⟨u,w,t,z,r⟩:=g.Mi;have q:∀e,(Am c d b a e).Ai≠0->Am c f b a e=Am c d b a e:=λe s=>m.Am g.hi s;have J:∀e,e<3->(AL c d b a).op=5/\e<2\/(AL c d b a).op=10/\e<1\/(AL c d b a).op=11\/(AL c d b a).op=12/\e<2->Am c f b a e=Am c d b a e:=λe h y=>by refine q e (g.AT i (by omega) e ?_);have:=r.AX;unfold FA at this;grind
 refine⟨?_,?_,?_,?_,?_,?_,?_,?_⟩;.rw[o];intro _ p e h;rw[q e (g.AT i p e h)];exact g.AT i p e h
 .grind
 .grind
 .grind
 .grind
 .grind
 .grind
 .rw[o];intro x;rw[m.Dr g.hi (λe h=>g.AT i (by omega) e h)];grind
def l1{e:C Ab}{c:Ah}{d:D}(h:IZ e c d a):∃b,(c.at d).AB[a]? =A b/\(b.l:K)=C_ e (AL e c d a):=by obtain⟨m,n,f,j,k⟩:=h.Mi;obtain⟨b,g⟩:=Bo (b:=(c.at d).AB) (a:=a) (by rw[f.AB];grind);exact⟨b,g,f.Aw a _ b j g⟩
def mx(k:a<b.T.l){d:K}{g:C AG}{h e:K}(f:D)(i:M):(Ah.Aw ⟨(Bm b ⟨a,c⟩ d).T,g,h,e⟩ a c f i).T=b.T.set a {b.at a with AI:=(b.at a).AI.set c d,AB:=C5 (b.at a).AB c f i}:=by
 have j:(Ah.mk (Bm b ⟨a,c⟩ d).T g h e).at a={b.at a with AI:=(b.at a).AI.set c d}:=by show(b.AM a {b.at a with AI:=(b.at a).AI.set c d}).at a=_;exact Hc k
 unfold Ah.Aw Ah.AM;simp only[j];show(b.T.set a _).set a _=_;rw[Ajn];rfl
section
theorem YW{c:D}{a:M}(b:BN c a)(h:a.Ai=0):a=AK:=by unfold BN GP at b;rw[Af Om]at b;obtain⟨d,f⟩:=a;have g:d=0:=h;rw[g,(P:f=0)];rfl
theorem Ab4{l:C Ab}{e:Ah}(b:Bn l e){i j:D}(c:BW (e.at i) j=0)(a:D):Bg (e.at i) j a=AK:=YW (b.W.vo i j a) (b.W.Ff i j c a).1
theorem hJ{l:C Ab}{e c:Ah}(g:Bn l e){i j:D}(f:IZ l e i j){t:K}(p:0<t){a:D}{k:M}(s:c.T=e.T.set i {e.at i with AI:=(e.at i).AI.set j t,AB:=C5 (e.at i).AB j a k})(E:(a:K)<C_ l (AL l e i j)){m:D->D->Prop}(o:Fc e c m)(w:c.Aq=e.Aq+1)(y:Fl e.Ae c.Ae):P0 l e c i j/\(∀b,Bg (c.at i) j b=if b=a then k else AK)/\∀a d b,a<e.T.l->¬(a=i/\d=j)->Bg (c.at a) d b=Bg (e.at a) d b:=by
 obtain⟨z,x,F⟩:=l1 f;obtain⟨n,q,r⟩:=b0 g f p s (λd b G=>I1 Om) o w y;refine⟨n,λb=> ?_,r⟩;rw[q];by_cases h:b=a;.subst h;rw[Af B,OS ⟨z,x,by omega⟩]
 .rw[Ad h,I1 Om];exact Ab4 g f.zero b
variable{l:C Ab} {u:C AG} {v:C M} {e:Ah} {i j:D} {t:K}
theorem sg(g:Bn l e)(k:JU l u v e)(a:IZ l e i j)(n:0<t)(p:(AL l e i j).op=8\/(AL l e i j).op=9)(s:(Am l e i j 0).Ai=5){h:D->D->Prop}(f:Fc e (H0 l (Bm e ⟨i,j⟩ t) ⟨i,j⟩ (AL l e i j) (Am l e i j 0)).1 h):KC l u e (H0 l (Bm e ⟨i,j⟩ t) ⟨i,j⟩ (AL l e i j) (Am l e i j 0)).1 i j:=by
 obtain⟨b,_⟩:=l1 a;have q:(Bm e ⟨i,j⟩ t).at i={e.at i with AI:=(e.at i).AI.set j t}:=by show(e.AM i {e.at i with AI:=(e.at i).AI.set j t}).at i=_;exact Hc a.hi
 have m:H0 l (Bm e ⟨i,j⟩ t) ⟨i,j⟩ (AL l e i j) (Am l e i j 0)=(⟨e.T.set i {e.at i with AI:=(e.at i).AI.set j t,AB:=(e.at i).AB.set j (b.m λ_=>Am l e i j 0)},e.Ae,e.round,e.Aq+1⟩,0):=by unfold H0;rw[Ad Om];simp only[Aif,Aiz, *];show((Ah.mk ((e.T.set i _).set i _) _ _ _),(0:K))=_;rw[Ajn];rfl
 rw[m]at f⊢;have x:∀c,EQ ((e.at i).AB.set j (b.m λ_=>Am l e i j 0)) j c AK=if c<b.l then Am l e i j 0 else AK:=λc=>by unfold EQ;grind
 obtain⟨d,r,o⟩:=b0 (h:=⟨e.T.set i {e.at i with AI:=(e.at i).AI.set j t,AB:=(e.at i).AB.set j (b.m λ_=>Am l e i j 0)},e.Ae,e.round,e.Aq+1⟩) g a n B (λy c w=>by unfold EQ;rw[AiU Om];rfl) f B (Fl.refl _);refine d.NQ g k a o B ⟨?_,?_,?_,?_,?_,?_,?_,?_⟩ (by omega) (by omega) (by omega) (by omega);all_goals rw[d.mo.Ao a.hi]
 .omega
 .intro _;rw[d.mo.Am a.hi (a.EO p)];grind
 all_goals omega
theorem sn(b:Bn l e)(g:JU l u v e)(a:IZ l e i j)(k:0<t)(q:(AL l e i j).op=5){d:D->D->Prop}(h:Fc e ((Bm e ⟨i,j⟩ t).Aw i j (D1 (Am l e i j 0) (Am l e i j 1)).1.n (D1 (Am l e i j 0) (Am l e i j 1)).2) d):KC l u e ((Bm e ⟨i,j⟩ t).Aw i j (D1 (Am l e i j 0) (Am l e i j 1)).1.n (D1 (Am l e i j 0) (Am l e i j 1)).2) i j:=by
 have s:C_ l (AL l e i j)=2:=by unfold C_;omega
 have w:(((D1 (Am l e i j 0) (Am l e i j 1)).1.n:D):K)<2:=by have o:=Nw b i j 0;unfold D1;unfold BN GP BY at o;grind
 obtain⟨c,p,n⟩:=hJ (c:=(Bm e ⟨i,j⟩ t).Aw i j (D1 (Am l e i j 0) (Am l e i j 1)).1.n (D1 (Am l e i j 0) (Am l e i j 1)).2) b a k (mx (g:=e.Ae) (h:=e.round) (e:=e.Aq+1) a.hi _ _) (by omega) h B (Fl.refl _);exact c.NQ b g a n B (QM a c.mo (by omega) (by omega) P (by omega) (by omega) (by omega) (by omega)) (by omega) (by omega) (by omega) (by omega)
theorem VM(o:Bn l e)(f:IZ l e i j)(p:0<t)(z:(AL l e i j).op≠5)(r:¬((AL l e i j).op=8\/(AL l e i j).op=9))(q:(AL l e i j).op≠11){b:C AG}{a:M}{c:K}(s:Fl e.Ae b){k:D->D->Prop}(n:Fc e (Ah.Aw ⟨(Bm e ⟨i,j⟩ t).T,b,c,e.Aq+1⟩ i j 0 a) k):P0 l e (Ah.Aw ⟨(Bm e ⟨i,j⟩ t).T,b,c,e.Aq+1⟩ i j 0 a) i j/\Bg ((Ah.Aw ⟨(Bm e ⟨i,j⟩ t).T,b,c,e.Aq+1⟩ i j 0 a).at i) j 0=a/\∀d g h,d<e.T.l->¬(d=i/\g=j)->Bg ((Ah.Aw ⟨(Bm e ⟨i,j⟩ t).T,b,c,e.Aq+1⟩ i j 0 a).at d) g h=Bg (e.at d) g h:=by obtain⟨x,y,w,E,m⟩:=f.Mi;obtain⟨_⟩:=hJ (c:=Ah.Aw ⟨(Bm e ⟨i,j⟩ t).T,b,c,e.Aq+1⟩ i j 0 a) o f p (mx f.hi 0 a) (by have:=ZD (b:=l) r q m.op;omega) n B s;grind
theorem jr{a:Ah}{f:A8}{d:AD}{c:C M}{b:EW}(g:CV a f d c=DE a b)(h:b.op=1\/b.op=3\/b.op=4)(k:(CV a f d c).2.2=0):(BA a.Ae b).e=0/\CV a f d c=(⟨a.T,(BA a.Ae b).m,a.round,a.Aq⟩,(BA a.Ae b).v,0):=by rw[g,Og h]at*;grind
theorem sj(m:Bn l e)(y:JU l u v e)(c:IZ l e i j)(E:0<t)(U:(AL l e i j).op=1\/(AL l e i j).op=2\/(AL l e i j).op=3\/(AL l e i j).op=4\/(AL l e i j).op=6\/(AL l e i j).op=7\/(AL l e i j).op=13\/(AL l e i j).op=14){x:D->D->Prop}(k:Fc e ((CV (Bm e ⟨i,j⟩ t) ⟨i,j⟩ (AL l e i j) (Dr l e i j)).1.Aw i j 0 (CV (Bm e ⟨i,j⟩ t) ⟨i,j⟩ (AL l e i j) (Dr l e i j)).2.1) x):KC l u e ((CV (Bm e ⟨i,j⟩ t) ⟨i,j⟩ (AL l e i j) (Dr l e i j)).1.Aw i j 0 (CV (Bm e ⟨i,j⟩ t) ⟨i,j⟩ (AL l e i j) (Dr l e i j)).2.1) i j:=by
 have P:(AL l e i j).op≠5:=by omega
 have w:¬((AL l e i j).op=8\/(AL l e i j).op=9):=by omega
 have g:(AL l e i j).op≠11:=by omega
 have s:(AL l e i j).op≠10:=by omega
 have N:(AL l e i j).op≠12:=by omega
 have M:∃d,CV (Bm e ⟨i,j⟩ t) ⟨i,j⟩ (AL l e i j) (Dr l e i j)=(⟨(Bm e ⟨i,j⟩ t).T,e.Ae,e.round,e.Aq+1⟩,d,0)/\((AL l e i j).op=6->∃b,b<2/\(Am l e i j b).Ai≠0/\d=Am l e i j b)/\((AL l e i j).op≠6->d=M9 e.Ae (AL l e i j) (Dr l e i j)):=by
  unfold CV;by_cases p:(AL l e i j).op=4;.rw[Af p];exact⟨_,B,Om,λ_=>by unfold M9;grind⟩
  rw[Ad p];by_cases f:(AL l e i j).op=6
  .rw[Af f,Nv,Nv];refine⟨_,B,λ_=> ?_,Om⟩;by_cases T:(Am l e i j 0).Ai=0;.rw[Af T];obtain⟨_⟩:=c.some f;grind
   grind
  rw[Ad f];by_cases q:(AL l e i j).op=7;.rw[Af q];exact⟨_,B,Om,λ_=>by unfold M9;grind⟩
  rw[Ad q,Ad (by omega:¬(AL l e i j).op=10),Ad (by omega:¬(AL l e i j).op=12)];by_cases n:(AL l e i j).op=13;.rw[Af n,Og (by simp)];have z:BA (Bm e ⟨i,j⟩ t).Ae ⟨4,Cd (Dr l e i j) 0,AK,AK,0⟩=⟨e.Ae,HI e.Ae (Cd (Dr l e i j) 0),[],0⟩:=B;rw[z];exact⟨_,B,Om,λ_=>by unfold M9;grind⟩
  rw[Ad n];by_cases o:(AL l e i j).op=14;.rw[Af o];exact⟨_,B,Om,λ_=>by unfold M9;grind⟩
  rw[Ad o];exact⟨_,B,Om,λ_=>by unfold M9;grind⟩
 obtain⟨d,H,I,J⟩:=M;rw[H]at k⊢;obtain⟨h,r,F⟩:=VM m c E P w g (Fl.refl _) k;refine h.NQ m y c F B (QM c h.mo w Om Om Om (λa=>A_ a s) (λG=> ?_) (λa=> ?_)) (λa=>A_ a s) (λa=>A_ a g) (λa=>A_ a N) (λa=>A_ a g);.obtain⟨b,Q,R,S⟩:=I G;exact⟨b,Q,R,r.t S⟩
 .exact r.t (J λV=>by omega)
theorem sf(m:Bn l e)(o:JU l u v e)(c:IZ l e i j)(s:0<t)(N:(AL l e i j).op=10){q:D->D->Prop}(J:(CV (Bm e ⟨i,j⟩ t) ⟨i,j⟩ (AL l e i j) (Dr l e i j)).2.2=0)(f:Fc e ((CV (Bm e ⟨i,j⟩ t) ⟨i,j⟩ (AL l e i j) (Dr l e i j)).1.Aw i j 0 (CV (Bm e ⟨i,j⟩ t) ⟨i,j⟩ (AL l e i j) (Dr l e i j)).2.1) q):KC l u e ((CV (Bm e ⟨i,j⟩ t) ⟨i,j⟩ (AL l e i j) (Dr l e i j)).1.Aw i j 0 (CV (Bm e ⟨i,j⟩ t) ⟨i,j⟩ (AL l e i j) (Dr l e i j)).2.1) i j:=by
 have H:CV (Bm e ⟨i,j⟩ t) ⟨i,j⟩ (AL l e i j) (Dr l e i j)=DE (Bm e ⟨i,j⟩ t) ⟨1,Cd (Dr l e i j) 0,AK,AK,0⟩:=by unfold CV;grind
 obtain⟨h,G⟩:=jr H P J;rw[G]at f⊢;have F:BA (Bm e ⟨i,j⟩ t).Ae ⟨1,Cd (Dr l e i j) 0,AK,AK,0⟩=⟨(C7 e.Ae (Am l e i j 0)).1,(C7 e.Ae (Am l e i j 0)).2.1,[],(C7 e.Ae (Am l e i j 0)).2.2⟩:=by rw[Nv];rfl
 rw[F]at f h⊢;have h:(C7 e.Ae (Am l e i j 0)).2.2=0:=h;have f:Fc e (Ah.Aw ⟨(Bm e ⟨i,j⟩ t).T,(C7 e.Ae (Am l e i j 0)).1,e.round,e.Aq+1⟩ i j 0 (C7 e.Ae (Am l e i j 0)).2.1) q:=f;show KC l u e (Ah.Aw ⟨(Bm e ⟨i,j⟩ t).T,(C7 e.Ae (Am l e i j 0)).1,e.round,e.Aq+1⟩ i j 0 (C7 e.Ae (Am l e i j 0)).2.1) i j;have xd:=c.AT (by omega) (by omega) 0 (by obtain⟨n,xe,xc,xg,y⟩:=c.Mi;have:=y.F_ (by omega);omega)
 have U:(I0 (Am l e i j 0)=Ac/\C7 e.Ae (Am l e i j 0)=(e.Ae,(C7 [] (Am l e i j 0)).2.1,0)/\(C7 [] (Am l e i j 0)).2.1.Ai≠4)\/I0 (Am l e i j 0)=L/\C7 e.Ae (Am l e i j 0)=(e.Ae++[⟨Bv (Am l e i j 0).n.n AK,[]⟩],DB e.Ae.l,0):=by
  generalize Am l e i j 0=n at*;unfold C7 at h⊢;unfold I0;by_cases z:n.Ai=5;.grind
  simp only[Ad z]at h⊢;by_cases r:n.Ai≠1;.left;simp only[Af r];exact⟨by grind,Ais,(by omega:(5:Int)≠4)⟩
  simp only[Ad r]at h⊢;by_cases E:BY n.n 0 100=Ac;.left;simp only[Af E];exact⟨by grind,Ais,(by omega:(5:Int)≠4)⟩
  grind
 rcases U with⟨S,p,T⟩|⟨S,p⟩;.rw[p]at f⊢;obtain⟨d,k,g⟩:=VM m c s (by omega) (by omega) (by omega) (Fl.refl _) f;refine d.NQ m o c g B (QM c d.mo (by omega) (by omega) (by omega) (by omega) P (by omega) (by omega)) (λ_=> ?_) (by omega) (by omega) (by omega);rw[k];exact T
 .rw[p]at f⊢;have W:(e.Ae++[(⟨Bv (Am l e i j 0).n.n AK,[]⟩:AG)]).l=e.Ae.l+1:=Aio;have x:∀a,a<e.Ae.l->D5 (e.Ae++[⟨Bv (Am l e i j 0).n.n AK,[]⟩]) a=D5 e.Ae a:=λa Q=>by unfold D5;grind
  have Y:D5 (e.Ae++[⟨Bv (Am l e i j 0).n.n AK,[]⟩]) e.Ae.l=Bv (Am l e i j 0).n.n AK:=by unfold D5;rw[Ajx (C6 _)];simp
  obtain⟨d,k,g⟩:=VM m c s (by omega) (by omega) (by omega) (Fl.of (by omega) x) f;have I:=d.mo.Ao (e:=l) (d:=j) c.hi;have xh:=o.Ae.AX;have X:∀xa,(Ah.Aw ⟨(Bm e ⟨i,j⟩ t).T,e.Ae++[⟨Bv (Am l e i j 0).n.n AK,[]⟩],e.round,e.Aq+1⟩ i j 0 xa).Ae=e.Ae++[⟨Bv (Am l e i j 0).n.n AK,[]⟩]:=λ_=>B;exact{
   toP0:=d
   GH:=λ_=>g
   Ao:=QM c d.mo (by omega) (by omega) (by omega) (by omega) P (by omega) (by omega)
   Q5:=dL m o c.zero g x
   CC:=.j ⟨W,Aik c.hi d.mo.AX,by rw[I];exact N,d.SE,k⟩
   V:=λa b=>by have w:=b.2.2.2;rw[k]at w;have:(e.Ae.l:K)=a:=Aij M.n w;omega
   wr:=λa R b=>by
    rw[X]at b;by_cases xf:a<e.Ae.l;.left;unfold DD at b⊢;grind
    .have Q:=(Vu b).1;have:a=e.Ae.l:=by omega
     subst this;unfold DD at b;rw[Y]at b;rw[SV]at b;exact A_ B b
   Lr:=λa R b=>by have g:=b.2.1;grind
   Ms:=λa Z xb k g _=>⟨Z,by grind,g⟩
   My:=by omega
   GA:=λa xi xb k g=>by grind}
end
section
variable{l:C Ab} {u:C AG} {w:C M} {e:Ah} {i j:D} {t:K}
theorem OI{a:M}{b c:K}(d:a.Ai=b)(f:a.n=c):a=⟨b,c⟩:=by obtain⟨g,h⟩:=a;grind
theorem gf{b:C AG}{a:D}{f d:AG}(g:b[a]? =A f)(c:D):D5 (b.set a d) c=if c=a then d.I else D5 b c:=by unfold D5;grind
theorem AbJ(b:Bj l)(c:IZ l e i j):j<1000:=by obtain⟨d,f,a,_⟩:=c.Mi;have:=(b.A4 d f a.hb).Ay;grind
theorem gd(d:Bn l e){c:D}{b:AG}(h:e.Ae[c]? =A b){g:D}{a:M}(k:b.I[g]? =A a)(f:a.Ai=0):a=AK:=
 YW ((Nb.1 ((MU.1 d.W.E8).2.1 b P).2).1 a P) f
theorem mf{a:C AG}{c:M}{b:D}{d:AG}(g:c.n=(b:K))(h:a[b]? =A d)(k:G_ a c.n=A d)(f:AG->AG):Jk a c.n f=a.set b (f d):=by unfold Jk;grind
theorem sk(xj:Bj l)(q:Bn l e)(N:JU l u w e)(g:IZ l e i j)(Z:0<t)(xb:(AL l e i j).op=12){M:D->D->Prop}(xa:(CV (Bm e ⟨i,j⟩ t) ⟨i,j⟩ (AL l e i j) (Dr l e i j)).2.2=0)(h:Fc e ((CV (Bm e ⟨i,j⟩ t) ⟨i,j⟩ (AL l e i j) (Dr l e i j)).1.Aw i j 0 (CV (Bm e ⟨i,j⟩ t) ⟨i,j⟩ (AL l e i j) (Dr l e i j)).2.1) M):KC l u e ((CV (Bm e ⟨i,j⟩ t) ⟨i,j⟩ (AL l e i j) (Dr l e i j)).1.Aw i j 0 (CV (Bm e ⟨i,j⟩ t) ⟨i,j⟩ (AL l e i j) (Dr l e i j)).2.1) i j:=by
 have X:CV (Bm e ⟨i,j⟩ t) ⟨i,j⟩ (AL l e i j) (Dr l e i j)=DE (Bm e ⟨i,j⟩ t) ⟨3,Cd (Dr l e i j) 0,Cd (Dr l e i j) 1,AK,1000*(i:K)+(j:K)⟩:=by unfold CV;rw[Ad (by omega),Ad (by omega),Ad (by omega),Ad (by omega),Af xb]
 obtain⟨f,W⟩:=jr X (.j (.i B)) xa;rw[W]at h⊢;have U:BA (Bm e ⟨i,j⟩ t).Ae ⟨3,Cd (Dr l e i j) 0,Cd (Dr l e i j) 1,AK,1000*(i:K)+(j:K)⟩=⟨(Ds e.Ae (Am l e i j 0) (Am l e i j 1) (1000*(i:K)+(j:K))).1,(Ds e.Ae (Am l e i j 0) (Am l e i j 1) (1000*(i:K)+(j:K))).2.1,[],(Ds e.Ae (Am l e i j 0) (Am l e i j 1) (1000*(i:K)+(j:K))).2.2⟩:=by rw[Nv,Nv];rfl
 rw[U]at h f⊢;have f:(Ds e.Ae (Am l e i j 0) (Am l e i j 1) (1000*(i:K)+(j:K))).2.2=0:=f;have h:Fc e (Ah.Aw ⟨(Bm e ⟨i,j⟩ t).T,(Ds e.Ae (Am l e i j 0) (Am l e i j 1) (1000*(i:K)+(j:K))).1,e.round,e.Aq+1⟩ i j 0 (Ds e.Ae (Am l e i j 0) (Am l e i j 1) (1000*(i:K)+(j:K))).2.1) M:=h;show KC l u e (Ah.Aw ⟨(Bm e ⟨i,j⟩ t).T,(Ds e.Ae (Am l e i j 0) (Am l e i j 1) (1000*(i:K)+(j:K))).1,e.round,e.Aq+1⟩ i j 0 (Ds e.Ae (Am l e i j 0) (Am l e i j 1) (1000*(i:K)+(j:K))).2.1) i j;have xv:=λv (xA:v<2)=>g.AT (by omega) (by omega) v (by obtain⟨r,s,xz,xB,xi⟩:=g.Mi;have:=xi.KU (by omega);omega)
 have xm:=AbJ xj g;have xd:=Nw q i j 0;have xc:(AL l e i j).op≠6:=by omega
 have xo:(Ds e.Ae (Am l e i j 0) (Am l e i j 1) (1000*(i:K)+(j:K))=(e.Ae,Ko e.Ae (Am l e i j 0) (Am l e i j 1),0)/\(Dp e.Ae (Am l e i j 0) (Am l e i j 1)=L->(FI e.Ae (Am l e i j 0) (Am l e i j 1)).Ai≠0))\/Dp e.Ae (Am l e i j 0) (Am l e i j 1)=L/\(FI e.Ae (Am l e i j 0) (Am l e i j 1)).Ai=0/\Ds e.Ae (Am l e i j 0) (Am l e i j 1) (1000*(i:K)+(j:K))=(Jk e.Ae (Am l e i j 0).n (λd=>⟨d.I,d.AV++[⟨(Am l e i j 1).n,1000*(i:K)+(j:K)⟩]⟩),AK,0):=by
  clear h xa X U W xv;generalize Am l e i j 0=r at*;generalize Am l e i j 1=s at*;unfold Ds at f⊢;unfold Ko;by_cases P:r.Ai=5;.simp only[Af P];exact .i ⟨Ais,λa=>by have:=O2 a;omega⟩
  simp only[Ad P]at f⊢;by_cases Q:s.Ai=5;.simp only[Af Q];exact .i ⟨Ais,λa=>by have:=O2 a;omega⟩
  simp only[Ad Q]at f⊢;by_cases R:r.Ai=3;.simp only[Af R];exact .i ⟨Ais,λa=>by have:=O2 a;omega⟩
  simp only[Ad R]at f⊢;by_cases S:r.Ai≠4\/s.Ai≠1;.simp only[Af S];exact .i ⟨Ais,λa=>by have:=O2 a;omega⟩
  simp only[Ad S]at f⊢;by_cases z:Dp e.Ae r s=Ac;.simp only[Af z];exact .i ⟨Ais,λa=>by rw[z]at a;cases a⟩
  simp only[Ad z]at f⊢;by_cases G:(FI e.Ae r s).Ai≠0;.simp only[Af G];exact .i ⟨Ais,λ_=>G⟩
  simp only[Ad G]at f⊢;by_cases T:6000<=BZ e.Ae;.rw[Af T]at f;exact A_ f (by decide:¬(5:Int)=0)
  rw[Ad T];exact .j ⟨by simpa using z,by omega,B⟩
 rcases xo with⟨E,F⟩|⟨E,F,xn⟩;.rw[E]at h⊢;obtain⟨p,k,b⟩:=VM q g Z Om Om Om (Fl.refl _) h;exact p.NQ q N g b B (QM g p.mo Om (λa=>A_ a Om) (λa=>A_ a Om) (λ_=>k) (λa=>A_ a Om) (λa=>A_ a xc) (by omega)) (λa=>A_ a Om) (λa=>A_ a Om) (λ_=>F) (λa=>A_ a Om)
 .obtain⟨n,v,d,xy,J,m,xC,xq,xe,xr,xs,xt⟩:=O1 (Q6 xd) E;rw[xn,mf J m xt]at h⊢;have y:∀c,D5 (e.Ae.set n ⟨d.I,d.AV++[⟨(Am l e i j 1).n,1000*(i:K)+(j:K)⟩]⟩) c=D5 e.Ae c:=λc=>by
   rw[gf m];split;.rename_i o;subst o;unfold D5;rw[m]
   .rfl
  have xp:(e.Ae.set n ⟨d.I,d.AV++[⟨(Am l e i j 1).n,1000*(i:K)+(j:K)⟩]⟩).l=e.Ae.l:=Aiv;obtain⟨p,k,b⟩:=VM q g Z Om Om Om (Fl.of (by omega) λc _=>y c) h;have Y:=p.mo.Ao (e:=l) (d:=j) g.hi;have xl:xy=AK:=gd q m xq (by rw[xe]at F;exact F);have xk:Dp (e.Ae.set n ⟨d.I,d.AV++[⟨(Am l e i j 1).n,1000*(i:K)+(j:K)⟩]⟩) (Am l e i j 0) (Am l e i j 1)=L:=by rw[(Fl.of (by omega) λc _=>y c).FM xd];exact E
  have x:∀xw,(Ah.Aw ⟨(Bm e ⟨i,j⟩ t).T,e.Ae.set n ⟨d.I,d.AV++[⟨(Am l e i j 1).n,1000*(i:K)+(j:K)⟩]⟩,e.round,e.Aq+1⟩ i j 0 xw).Ae=e.Ae.set n ⟨d.I,d.AV++[⟨(Am l e i j 1).n,1000*(i:K)+(j:K)⟩]⟩:=λ_=>B;have xf:(1000*(i:K)+(j:K))=((1000*i+j:D):K):=by omega
  exact{
   toP0:=p
   GH:=λ_=>b
   Ao:=QM g p.mo Om (λa=>A_ a Om) (λa=>A_ a Om) (λ_=>by rw[k,x,ZL xk,KE (by omega)];unfold DD;rw[y];have xh:=xe.t xl;rw[KE (by omega)]at xh;exact xh.s) (λa=>A_ a Om) (λa=>A_ a xc) (by omega)
   Q5:=dL q N g.zero b λc _=>y c
   CC:=.i xp
   V:=λc a=>by have b:=a.2.1;rw[Y]at b;exact A_ b Om
   wr:=λc v a=>by left;rw[x]at a;unfold DD at a⊢;rw[y]at a;exact a
   Lr:=λc v a=>by have b:=a.2.1;rw[Y]at b;exact A_ b Om
   Ms:=λc xg xx H I _=>by
    rw[x];by_cases o:c=n;.rw[o]at H⊢;rw[(AiI (H.s.t m):xg=d)]at I;exact⟨_,AiF (Aid.1 m).1,Ajl _ I⟩
    .exact⟨xg,by rw[AiU (λa=>o a.s)];exact H,I⟩
   My:=λ_ _ _=>by rw[x,J,Aif];exact⟨_,AiF (Aid.1 m).1,by rw[xf];exact Ajb _ (Ai3.2 B)⟩
   GA:=λc xu xx k b=>by
    rw[x]at k;by_cases o:c=n
    .subst o;rw[AiF (Aid.1 m).1]at k;cases k
     rcases AiM.1 b with b|b;.exact .i ⟨d,m,b⟩
     .rw[Ai3.1 b];exact .j ⟨xm,xf,xb,OI xr J,OI xs B⟩
    .rw[AiU (λa=>o a.s)]at k;exact .i ⟨xu,k,b⟩}
structure nE(h:M)(g:C BM)(e b:Ah):Prop where
 AX:b.T.l=e.T.l
 Ae:b.Ae=e.Ae
 Aq:b.Aq=e.Aq
 BG:∀a,(b.at a).Ap=(e.at a).Ap/\(b.at a).next=(e.at a).next/\(b.at a).A5=(e.at a).A5/\(b.at a).AI=(e.at a).AI
 AB:∀a c d,Bg (b.at a) c d=if d=0/\c<1000/\((1000*a+c:D):K)∈g.m (λf=>f.Cq)then h else Bg (e.at a) c d
theorem mV{k:M}:∀{g:C BM}{e:Ah},(∀b∈g,b.v=k/\∃i j:D,b.Cq=((1000*i+j:D):K)/\j<1000/\i<e.T.l/\Fk (e.at i).AB j 0)->nE k g e (g.foldl GW e)
 |[],e,_=>⟨B,B,B,P,P⟩
 |b::g,e,n=>by
  obtain⟨H,i,j,E,F,o,G⟩:=n b P;have s:(e.Aw i j 0 b.v).T.l=e.T.l:=D0 ..;have m:∀a,(e.Aw i j 0 b.v).at a=if a=i then(e.at i).Aw j 0 b.v else e.at a:=λa=>by unfold Ah.Aw;rw[Ee o]
  have V:∀a,((e.Aw i j 0 b.v).at a).Ap=(e.at a).Ap/\((e.Aw i j 0 b.v).at a).next=(e.at a).next/\((e.Aw i j 0 b.v).at a).A5=(e.at a).A5/\((e.Aw i j 0 b.v).at a).AI=(e.at a).AI:=λa=>by
   rw[m];split;.rename_i f;subst f;exact⟨B,B,B,B⟩
   grind
  have x:∀a c d,Bg ((e.Aw i j 0 b.v).at a) c d=if a=i/\c=j/\d=0 then k else Bg (e.at a) c d:=λa c d=>by
   by_cases f:a=i/\c=j/\d=0;.obtain⟨rfl,rfl,rfl⟩:=f;rw[Af ⟨B,B,B⟩,m,Af B,<-H];exact OS G
   .rw[Ad f,WO o a c d f]
  have h:=mV (k:=k) (g:=g) (e:=e.Aw i j 0 b.v) (λz T=>by
   obtain⟨I,p,q,J,N,W,y,Q,R⟩:=n z P;refine⟨I,p,q,J,N,by omega,?_⟩;rw[m];split;.rename_i f;subst f;exact MV (S0 _ _ _ _) ⟨y,Q,R⟩
   grind)
  rw[Ajp,(al E F:GW e b=e.Aw i j 0 _)];refine⟨h.AX.t s,h.Ae,h.Aq,λa=> ?_,λa c d=> ?_⟩;.have U:=h.BG a;grind
  .rw[h.AB,x,Ai9];by_cases r:d=0/\c<1000/\((1000*a+c:D):K)∈g.m (λb=>b.Cq);.grind
   .rw[Ad r];by_cases S:a=i/\c=j/\d=0;.grind
    grind
theorem ms{i j:D}(b:i<e.T.l)(a:D):(Bm e ⟨i,j⟩ t).at a=if a=i then{e.at i with AI:=(e.at i).AI.set j t}else e.at a:=Ee b a
theorem mv(c:IZ l e i j)(a b:D):BW ((Bm e ⟨i,j⟩ t).at a) b=if a=i/\b=j then t else BW (e.at a) b:=by
 rw[ms c.hi];by_cases d:a=i
 .subst d;rw[Af B];show((((e.at a).AI.set j t)[b]?).g 0)=_;by_cases f:b=j;.subst f;rw[Af ⟨B,B⟩,AiF c.hj];rfl
  .rw[Ad Om,AiU Om];rfl
 grind
theorem PO{i j:D}(b:i<e.T.l)(a:D):((Bm e ⟨i,j⟩ t).at a).Ap=(e.at a).Ap/\((Bm e ⟨i,j⟩ t).at a).next=(e.at a).next/\((Bm e ⟨i,j⟩ t).at a).A5=(e.at a).A5/\((Bm e ⟨i,j⟩ t).at a).AB=(e.at a).AB:=by rw[ms b];grind
theorem sm(xw:Bj l)(z:Bn l e)(T:JU l u w e)(m:IZ l e i j)(xW:0<t)(xX:(AL l e i j).op=11){xf:D->D->Prop}(xB:(DE (Bm e ⟨i,j⟩ t) ⟨2,Am l e i j 0,Am l e i j 1,Am l e i j 2,0⟩).2.2=0)(x:Fc e (DE (Bm e ⟨i,j⟩ t) ⟨2,Am l e i j 0,Am l e i j 1,Am l e i j 2,0⟩).1 xf):KC l u e (DE (Bm e ⟨i,j⟩ t) ⟨2,Am l e i j 0,Am l e i j 1,Am l e i j 2,0⟩).1 i j:=by
 have xo:=λa (H:a<3)=>m.AT (by omega) (by omega) a (by obtain⟨b,c,S,xm,xO⟩:=m.Mi;have:=xO.Xt (by omega);omega)
 have xF:=Nw z i j 0;have xz:BA (Bm e ⟨i,j⟩ t).Ae ⟨2,Am l e i j 0,Am l e i j 1,Am l e i j 2,0⟩=⟨(CD e.Ae (Am l e i j 0) (Am l e i j 1) (Am l e i j 2)).1,Nd (CD e.Ae (Am l e i j 0) (Am l e i j 1) (Am l e i j 2)).2.2,(CD e.Ae (Am l e i j 0) (Am l e i j 1) (Am l e i j 2)).2.1,(CD e.Ae (Am l e i j 0) (Am l e i j 1) (Am l e i j 2)).2.2⟩:=B;have xA:(CD e.Ae (Am l e i j 0) (Am l e i j 1) (Am l e i j 2)).2.2=0/\(DE (Bm e ⟨i,j⟩ t) ⟨2,Am l e i j 0,Am l e i j 1,Am l e i j 2,0⟩).1=(CD e.Ae (Am l e i j 0) (Am l e i j 1) (Am l e i j 2)).2.1.foldl GW ⟨(Bm e ⟨i,j⟩ t).T,(CD e.Ae (Am l e i j 0) (Am l e i j 1) (Am l e i j 2)).1,e.round,e.Aq+1⟩:=by
  unfold DE at xB⊢;rw[xz]at xB⊢;by_cases U:(CD e.Ae (Am l e i j 0) (Am l e i j 1) (Am l e i j 2)).2.2≠0;.grind
  .simp only[Ad U];exact⟨by omega,B⟩
 rw[xA.2]at x⊢;have xV:=xA.1;by_cases xg:Dp e.Ae (Am l e i j 0) (Am l e i j 1)=Ac
 .have R:CD e.Ae (Am l e i j 0) (Am l e i j 1) (Am l e i j 2)=(e.Ae,[],0):=by unfold CD;rw[Af xg]
  rw[R]at x⊢;show KC l u e (Ah.mk (Bm e ⟨i,j⟩ t).T e.Ae e.round (e.Aq+1)) i j;obtain⟨r,F,E⟩:=b0 (h:=Ah.mk (Bm e ⟨i,j⟩ t).T e.Ae e.round (e.Aq+1)) (k:=(e.at i).AB) z m xW (by show e.T.set _ _=_;simp) (λd g _=>B) (x:Fc e (Ah.mk (Bm e ⟨i,j⟩ t).T e.Ae e.round (e.Aq+1)) xf) B (Fl.refl _);exact r.NQ z T m E B (QM m r.mo Om P Om Om Om Om (by omega)) Om P Om P
 .have xg:Dp e.Ae (Am l e i j 0) (Am l e i j 1)=L:=by grind
  obtain⟨k,a,f,d,X,J,Y,xG,yg,xH,xI,xJ⟩:=O1 (Q6 xF) xg;have xR:(FI e.Ae (Am l e i j 0) (Am l e i j 1)).Ai=0:=Aih λxR=>by unfold CD at xV;grind
  have R:CD e.Ae (Am l e i j 0) (Am l e i j 1) (Am l e i j 2)=(e.Ae.set k ⟨f.I.set a (Am l e i j 2),Fg (Am l e i j 1).n f.AV⟩,Fj (Am l e i j 1).n (Am l e i j 2) f.AV,0):=by unfold CD;rw[Ad (by omega),Ad Om,xJ,mf X J xJ,Y,Aif]
  rw[R]at x⊢;have x:Fc e ((Fj (Am l e i j 1).n (Am l e i j 2) f.AV).foldl GW ⟨(Bm e ⟨i,j⟩ t).T,e.Ae.set k ⟨f.I.set a (Am l e i j 2),Fg (Am l e i j 1).n f.AV⟩,e.round,e.Aq+1⟩) xf:=x;show KC l u e ((Fj (Am l e i j 1).n (Am l e i j 2) f.AV).foldl GW ⟨(Bm e ⟨i,j⟩ t).T,e.Ae.set k ⟨f.I.set a (Am l e i j 2),Fg (Am l e i j 1).n f.AV⟩,e.round,e.Aq+1⟩) i j;have H:=(Aid.1 xG).1;have xl:=(Aid.1 J).1;have x4:∀q:BM,q∈Fj (Am l e i j 1).n (Am l e i j 2) f.AV->q.v=Am l e i j 2/\∃b c:D,q.Cq=((1000*b+c:D):K)/\c<1000/\b<e.T.l/\(AL l e b c).op=12/\0<BW (e.at b) c/\Am l e b c 0=DB k/\Am l e b c 1=Ed (Am l e i j 1).n:=λq xd=>by unfold Fj at xd;obtain⟨R,xn,rfl⟩:=AiR.1 xd;obtain⟨xn,ya⟩:=Ajy.1 xn;obtain⟨b,c,xt,xN,ym,xu,xv,yn,yo⟩:=T.GA k f R J xn;grind
  have yi:∀b c:D,b<e.T.l->(AL l e b c).op=12->0<BW (e.at b) c->Fk (e.at b).AB c 0:=λb c G x9 Q=>by obtain⟨xD,xy,I,S,xm,xa⟩:=TU z G Q;obtain⟨xE,xC⟩:=Bo (b:=(e.at b).AB) (a:=c) (by rw[S.AB];grind);have:=S.Aw c I xE xm xC;rw[<-xa]at this;have:=ZD (b:=l) (a:=AL l e b c) (by omega) (by omega) (by omega);exact⟨xE,xC,by omega⟩
  have y:=mV (k:=Am l e i j 2) (g:=Fj (Am l e i j 1).n (Am l e i j 2) f.AV) (e:=⟨(Bm e ⟨i,j⟩ t).T,e.Ae.set k ⟨f.I.set a (Am l e i j 2),Fg (Am l e i j 1).n f.AV⟩,e.round,e.Aq+1⟩) (λq xd=>by obtain⟨x2,b,c,x3,xs,xK,yj,yk,_⟩:=x4 q xd;refine⟨x2,b,c,x3,xs,by show b<(e.T.set _ _).l;grind,?_⟩;show Fk ((Bm e ⟨i,j⟩ t).at b).AB c 0;rw[(PO m.hi b).2.2.2];grind)
  generalize(Fj (Am l e i j 1).n (Am l e i j 2) f.AV).foldl GW ⟨(Bm e ⟨i,j⟩ t).T,e.Ae.set k ⟨f.I.set a (Am l e i j 2),Fg (Am l e i j 1).n f.AV⟩,e.round,e.Aq+1⟩=p at*;have yd:p.T.l=e.T.l:=y.AX.t (by show(e.T.set _ _).l=_;rw[Aiv]);have W:p.Ae=e.Ae.set k ⟨f.I.set a (Am l e i j 2),Fg (Am l e i j 1).n f.AV⟩:=y.Ae;have x6:∀a,(Ah.mk (Bm e ⟨i,j⟩ t).T (e.Ae.set k ⟨f.I.set a (Am l e i j 2),Fg (Am l e i j 1).n f.AV⟩) e.round (e.Aq+1)).at a=(Bm e ⟨i,j⟩ t).at a:=λa=>B;have yf:∀a d,BQ (p.at a) d=BQ (e.at a) d:=λa d=>by unfold BQ;rw[(y.BG a).1];exact Aij (λxr:C M=>(xr[d]?).g AK) (PO m.hi a).1
  have ye:∀a,(p.at a).next=(e.at a).next:=λa=>(y.BG a).2.1.t (PO m.hi a).2.1
  have yl:∀a d g,BT (p.at a) d g=BT (e.at a) d g:=λa d g=>by unfold BT;rw[(y.BG a).2.2.1];exact Aij (λxr:C (C BC)=>((xr[d]?.g [])[g]?).g E3) (PO m.hi a).2.2.1
  have x8:∀a d,BW (p.at a) d=if a=i/\d=j then t else BW (e.at a) d:=λa d=>by rw[<-mv m];unfold BW;rw[(y.BG a).2.2.2];rfl
  have xp:∀a d g,Bg (p.at a) d g=if g=0/\d<1000/\((1000*a+d:D):K)∈(Fj (Am l e i j 1).n (Am l e i j 2) f.AV).m (λq=>q.Cq)then Am l e i j 2 else Bg (e.at a) d g:=λa d g=>by
   rw[y.AB a d g];have:Bg ((Bm e ⟨i,j⟩ t).at a) d g=Bg (e.at a) d g:=by unfold Bg;rw[(PO m.hi a).2.2.2]
   rw[<-this];rfl
  have xL:∀b c:D,c<1000->((1000*b+c:D):K)∈(Fj (Am l e i j 1).n (Am l e i j 2) f.AV).m (λq=>q.Cq)->b<e.T.l/\(AL l e b c).op=12/\Am l e b c 0=DB k/\Am l e b c 1=Ed (Am l e i j 1).n:=P;have xS:∀h,D5 p.Ae h=if h=k then f.I.set a (Am l e i j 2)else D5 e.Ae h:=λh=>by rw[W];exact gf J h
  have x7:D5 e.Ae k=f.I:=by unfold D5;grind
  have N:∀h g,DD p.Ae h g=if h=k/\g=a then Am l e i j 2 else DD e.Ae h g:=λh g=>by unfold DD;grind
  have xh:DD e.Ae k a=AK:=by have:=gd z J xG (by grind);unfold DD;grind
  have Z:Fl e.Ae p.Ae:=⟨by grind,P,λh g I=>by
   rw[N,Ad]
   rintro⟨rfl,rfl⟩
   rw[xh]at I;exact I B⟩
  have r:P0 l e p i j:={
   mo:={
    AX:=by omega
    BG:=x.BG
    Av:=x.Av
    nx:=λa H _=>P
    fm:=λa d H o=>by grind
    FZ:=λa d g H _=>P
    Ae:=Z}
   Aq:=y.Aq
   AI:=λa d H I=>by grind
   SE:=by grind
   Ep:=λa d _=>P
   next:=λa _=>P
   FZ:=λa d g _=>P
   AB:=λb c g G I xb=>by
    rw[xp,Ad]
    rintro⟨rfl,xP,xQ⟩
    exact xb (xL b c xP xQ).2.1
   KO:=λa H=>by rw[(Nk (by omega):p.at a=Qi)];exact⟨λ_=>B,B,λ_ _=>⟨B,B⟩⟩
   E9:=λxz F E=>by omega}
  have xa:=r.mo.Ao (e:=l) (d:=j) m.hi;exact{
   toP0:=r
   GH:=λo=>Om
   Ao:=QM m r.mo Om (λ_ _=>by rw[KE (by omega),N,X,Y,Aif,Aif,Af ⟨B,B⟩]) Om Om Om Om (by omega)
   Q5:=λb c G Q xb=>by
    have yb:=T.AT xw z G Q;have xq:=Nw z b c 0;have xx:c<1000:=by obtain⟨xD,xy,I,S,xm,_⟩:=TU z G Q;have:=(xw.A4 xD xy S.hb).Ay;grind
    by_cases U:((1000*b+c:D):K)∈(Fj (Am l e i j 1).n (Am l e i j 2) f.AV).m (λq=>q.Cq);.rw[xp,Af ⟨B,xx,U⟩];obtain⟨_,_,xs,xK⟩:=xL b c xx U;rw[(xs.t (OI xH X).s:Am l e b c 0=Am l e i j 0),(xK.t (OI xI B).s:Am l e b c 1=Am l e i j 1),ZL (by rw[Z.FM xF];omega),KE (by omega),N,X,Y,Aif,Aif,Af ⟨B,B⟩]
    .rw[xp,Ad P,((T.Ao b c G Q).AU xb)];by_cases xc:Dp e.Ae (Am l e b c 0) (Am l e b c 1)=L
     .have yc:=O2 xc
      have yh:=Ow xq Om
      rw[ZL xc,ZL (by rw[Z.FM xq];omega),KE Om,KE Om,N,Ad]
      rintro⟨xt,xN⟩
      have x5:(FI e.Ae (Am l e b c 0) (Am l e b c 1)).Ai=0:=by rw[KE Om,xt,xN,xh];rfl
      obtain⟨xe,x0,x1⟩:=T.My b c G xb Q xc x5
      rw[xt]at x0
      have:xe=f:=P
      subst this
      refine U (AiR.2 ⟨⟨((1000*b+c:D):K),Am l e i j 2⟩,?_,B⟩)
      unfold Fj
      refine AiR.2 ⟨_,Ajy.2 ⟨x1,Be ?_⟩,B⟩
      have:0<=(Am l e b c 1).n:=by unfold Dp BY at xc;grind
      show(Am l e b c 1).n=(Am l e i j 1).n
      omega
     .unfold Ko;rw[Z.FM xq];grind
   CC:=.i (by rw[W,Aiv])
   V:=λh o=>by have E:=o.2.1;rw[xa]at E;exact A_ E Om
   wr:=λh g o=>by
    rw[N]at o;by_cases s:h=k/\g=a
    .obtain⟨rfl,rfl⟩:=s;refine .j ⟨by have:=m.hi;omega,by rw[xa];exact xX,r.SE,?_,?_,by rw[W,Aiv];exact xl,by rw[xS,Af B,Aiv];exact H⟩;.rw[r.mo.Am m.hi Om];exact OI xH X
     .rw[r.mo.Am m.hi Om];exact OI xI Y
    .rw[Ad s]at o;exact .i o
   Lr:=λh g o=>by
    obtain⟨_,_,_,xu,xv,_,_⟩:=o;rw[r.mo.Am m.hi (xo 0 (by omega))]at xu;rw[r.mo.Am m.hi (xo 1 (by omega))]at xv;have xT:h=k:=by have:(Am l e i j 0).n=(h:K):=(Aij M.n xu);omega
    have xU:g=a:=by have:(Am l e i j 1).n=(g:K):=(Aij M.n xv);omega
    rw[xT,xU,xh];rfl
   Ms:=λh xe xY xi xj xk=>by
    rw[N]at xk;rw[W];by_cases s:h=k
    .rw[s]at xi⊢;rw[(AiI (xi.s.t J):xe=f)]at xj;refine⟨_,AiF xl,?_⟩;unfold Fg;refine Ajy.2 ⟨xj,?_⟩;by_cases xM:xY.Cy=(Am l e i j 1).n;.rw[Af ⟨s,by rw[xM,Y,Aif]⟩]at xk;exact A_ xk (xo 2 (by omega))
     .simp[xM]
    .exact⟨xe,by rw[AiU (λo=>s o.s)];exact xi,xj⟩
   My:=λo=>A_ o Om
   GA:=λh xZ R F E=>by
    rw[W]at F;by_cases s:h=k
    .subst s;rw[AiF xl]at F;cases F
     exact .i ⟨f,J,(Ajy.1 E).1⟩
    .rw[AiU (λo=>s o.s)]at F;exact .i ⟨xZ,F,E⟩}
theorem sh(P:Bj l)(Q:Bn l e)(Z:JU l u w e)(k:IZ l e i j)(S:0<t)(y:(AL l e i j).op=8\/(AL l e i j).op=9)(I:(Am l e i j 0).Ai≠5){M:D->D->Prop}(z:(H0 l (Bm e ⟨i,j⟩ t) ⟨i,j⟩ (AL l e i j) (Am l e i j 0)).2=0)(x:Fc e (H0 l (Bm e ⟨i,j⟩ t) ⟨i,j⟩ (AL l e i j) (Am l e i j 0)).1 M):KC l u e (H0 l (Bm e ⟨i,j⟩ t) ⟨i,j⟩ (AL l e i j) (Am l e i j 0)).1 i j:=by
 obtain⟨xh,xi,xg,xo,xa⟩:=k.Mi;obtain⟨s,g,xd,G,xj,xk,xl⟩:=xa.call y;have W:(Bm e ⟨i,j⟩ t).T.l=e.T.l:=by show(e.T.set _ _).l=_;rw[Aiv]
 have xc:H0 l (Bm e ⟨i,j⟩ t) ⟨i,j⟩ (AL l e i j) (Am l e i j 0)=(⟨(Bm e ⟨i,j⟩ t).T++[{Dl l g s i j 0 with Ap:=(Bv g.Ap.n AK).set 0 (Am l e i j 0)}],e.Ae,e.round,e.Aq+1⟩,0):=by
  unfold H0 at z⊢;rw[Af I]at z⊢;unfold ED at z⊢;by_cases R:(Bm e ⟨i,j⟩ t).T.l=400;.rw[Af R]at z;exact A_ z (by decide:¬(5:Int)=0)
  .rw[Ad R,xd,Aif,G];rfl
 rw[xc]at x⊢;have p:ay e.Ae.l {Dl l g s i j 0 with Ap:=(Bv g.Ap.n AK).set 0 (Am l e i j 0)} i j 0:=Zq B B (Nw Q i j 0) (k.EO y) (P.A4 s g G).Ap.1;have xb:∀a,(BQ {Dl l g s i j 0 with Ap:=(Bv g.Ap.n AK).set 0 (Am l e i j 0)} a).Ai≠0->a=0/\BQ {Dl l g s i j 0 with Ap:=(Bv g.Ap.n AK).set 0 (Am l e i j 0)} a=Am l e i j 0:=λa n=>by
  unfold BQ at n⊢;show a=0/\((((Bv g.Ap.n AK).set 0 (Am l e i j 0))[a]?).g AK)=_;have n:((((Bv g.Ap.n AK).set 0 (Am l e i j 0))[a]?).g AK).Ai≠0:=n;by_cases J:a=0;.subst J;refine⟨B,?_⟩;rw[AiF (by rw[AjD];have:=(P.A4 s g G).Ap.1;omega)];rfl
  .rw[AiU (by omega),SV]at n;exact A_ B n
 generalize({Dl l g s i j 0 with Ap:=(Bv g.Ap.n AK).set 0 (Am l e i j 0)}:AP)=o at*;have x:Fc e (Ah.mk ((Bm e ⟨i,j⟩ t).T++[o]) e.Ae e.round (e.Aq+1)) M:=x;show KC l u e (Ah.mk ((Bm e ⟨i,j⟩ t).T++[o]) e.Ae e.round (e.Aq+1)) i j;have xp:(Ah.mk ((Bm e ⟨i,j⟩ t).T++[o]) e.Ae e.round (e.Aq+1)).T.l=e.T.l+1:=by show((Bm e ⟨i,j⟩ t).T++[o]).l=_;rw[Aio,W];rfl
 have v:∀a,(Ah.mk ((Bm e ⟨i,j⟩ t).T++[o]) e.Ae e.round (e.Aq+1)).at a=if a=e.T.l then o else(Bm e ⟨i,j⟩ t).at a:=λa=>by have:=FG (a:=Bm e ⟨i,j⟩ t) (c:=o) (e:=e.Ae) (f:=e.round) (d:=e.Aq+1) a;rw[W]at this;exact this
 have T:(Ah.mk ((Bm e ⟨i,j⟩ t).T++[o]) e.Ae e.round (e.Aq+1)).Ae=e.Ae:=B;have xe:(Ah.mk ((Bm e ⟨i,j⟩ t).T++[o]) e.Ae e.round (e.Aq+1)).Aq=e.Aq+1:=B;generalize(Ah.mk ((Bm e ⟨i,j⟩ t).T++[o]) e.Ae e.round (e.Aq+1))=q at*;have E:∀a,a<e.T.l->q.at a=(Bm e ⟨i,j⟩ t).at a:=λa c=>by rw[v,Ad (by omega)]
 have V:∀a b h,a<e.T.l->Bg (q.at a) b h=Bg (e.at a) b h:=λa b h c=>by rw[E a c];unfold Bg;rw[(PO k.hi a).2.2.2]
 have Y:∀a b h,a<e.T.l->BT (q.at a) b h=BT (e.at a) b h:=λa b h c=>by rw[E a c];unfold BT;rw[(PO k.hi a).2.2.1]
 have U:∀a,a<e.T.l->(q.at a).next=(e.at a).next:=λa c=>by rw[E a c];exact(PO k.hi a).2.1
 have H:∀a b,a<e.T.l->BW (q.at a) b=if a=i/\b=j then t else BW (e.at a) b:=λa b c=>by rw[E a c];exact mv k a b
 have N:By q e.T.l i j:=⟨by omega,by rw[v,Af B];exact p.AN,by rw[v,Af B];exact p.Ao⟩;have F:P0 l e q i j:={
  mo:={
   AX:=by omega
   BG:=x.BG
   Av:=x.Av
   nx:=λa c _=>U a c
   fm:=λa b c n=>by
    rw[H a b c];split;.exact S
    .exact n
   FZ:=λa b h c _=>Y a b h c
   Ae:=by rw[T];exact Fl.refl _}
  Aq:=xe
  AI:=λa b c xf=>by rw[H a b c,Ad xf]
  SE:=by rw[H i j k.hi,Af ⟨B,B⟩];exact S
  Ep:=λa b c=>by rw[E a c];unfold BQ;rw[(PO k.hi a).1]
  next:=U
  FZ:=Y
  AB:=λa b h c _ _=>V a b h c
  KO:=λa c=>by
   by_cases J:a=e.T.l;.subst J;rw[v,Af B];exact⟨p.AI,p.next,λb h=>by rw[p.Aw,p.FZ];exact⟨B,B⟩⟩
   .have:q.at a=Qi:=Nk (by omega);rw[this];exact⟨λ_=>B,B,λ_ _=>⟨B,B⟩⟩
  E9:=λb xm xn=>by
   have:b=e.T.l:=by omega
   subst this;refine⟨y,I,N,by rw[v,Af B];exact p.As,λa=> ?_⟩;rw[v,Af B];exact xb a}
 have X:=k.EO y;refine F.NQ Q Z k (λa b h c _=>V a b h c) T ⟨?_,?_,?_,?_,?_,?_,?_,?_⟩ (by omega) (by omega) (by omega) (by omega);all_goals rw[F.mo.Ao k.hi]
 .intro n;exact A_ y n
 .intro _;rw[F.mo.Am k.hi X];exact⟨X,λ_=>⟨_,N,by rw[v,Af B];exact p.As⟩,λn=>A_ n I⟩
 all_goals omega
theorem hH(k:Bj l)(c:Bn l e)(g:JU l u w e)(p:i<e.T.l)(q:Gb l (e.at i) j=L)(f:0<t)(b:(Ev l e ⟨i,j⟩ t).2=0):KC l u e (Ev l e ⟨i,j⟩ t).1 i j:=by
 have d:=ZU k c p q;have a:=(VN k c p q f b).C0;have x:e.Aq≠6000:=λy=>by unfold Ev at b;rw[Af y]at b;exact A_ b (by decide:¬(5:Int)=0)
 rw[bZ p x]at b a⊢;by_cases m:(AL l e i j).op=8\/(AL l e i j).op=9
 .rw[Af m]at b a⊢;by_cases h:(Am l e i j 0).Ai=5;.exact sg c g d f m h a
  .exact sh k c g d f m h b a
 rw[Ad m]at b a⊢;by_cases n:(AL l e i j).op=11;.rw[Af n]at b a⊢;exact sm k c g d f n b a
 rw[Ad n]at b a⊢;by_cases h:(AL l e i j).op=5;.rw[Af h]at a⊢;exact sn c g d f h a
 rw[Ad h]at b a⊢;by_cases o:(CV (Bm e ⟨i,j⟩ t) ⟨i,j⟩ (AL l e i j) (Dr l e i j)).2.2≠0;.rw[Af o]at b;exact A_ b o
 rw[Ad o]at a⊢;by_cases s:(AL l e i j).op=10;.exact sf c g d f s (by omega) a
 by_cases v:(AL l e i j).op=12;.exact sk k c g d f v (by omega) a
 obtain⟨E,F,z,G,r⟩:=d.Mi;have:=r.op;exact sj c g d f (by omega) a
end
section
inductive RC(s f:Ah):D->D->Prop
 |DL:RC s f 0 0
 |CX {d e a b c:D}:RC s f d e->By s a d c->By f b e c->(f.at b).As=(s.at a).As->RC s f a b
inductive RS(l:C Ab)(b:D)(s f:Ah):D->D->Prop
 |BX {a:D}:a<b->RS l b s f a a
 |V {c d e a g:D}:RC s f c d->IA l s c e a->IA l f d e g->RS l b s f a g
inductive RV(l:C Ab)(a:D)(s f:Ah):M->M->Prop
 |BG {b:M}:b.Ai≠4->RV l a s f b b
 |Jj {c d:D}:RS l a s f c d->RV l a s f (DB c) (DB d)
structure Ex(l:C Ab)(t:C AG)(u:C M)(s:Ah):Prop where
 X:Bn l s
 J:JU l t u s
variable{l:C Ab} {t:C AG} {u:C M} {s f:Ah}
theorem RC.symm{a b:D}(c:RC s f a b):RC f s b a:=by
 induction c with
 |DL=>exact .DL
 |CX _ e g h d=>exact .CX d g e Om
theorem RC.lt(c:Ex l t u s)(d:Ex l t u f){a b:D}(e:RC s f a b):a<s.T.l/\b<f.T.l:=by
 cases e with
 |DL=>exact⟨c.J.F_,d.J.F_⟩
 |CX _ g h _=>exact⟨g.1,h.1⟩
theorem By.C3{b:Ah}{a h i d e:D}(c:By b a h d)(g:By b a i e):i=h/\e=d:=
 ⟨by have:=c.2.1;have:=g.2.1;omega,by have:=c.2.2;have:=g.2.2;omega⟩
theorem Ex.dF(a:Ex l t u s){d b:D}:¬By s 0 d b:=λc=>by have:=c.2.1;rw[a.J.DL.1]at this;omega
theorem RC.fn(c:Ex l t u s)(h:Ex l t u f){e g:D}(d:RC s f e g):∀{b},RC s f e b->b=g:=by
 induction d with
 |DL=>
  intro b a
  cases a with
  |DL=>rfl
  |CX _ a _ _=>exact A_ a c.dF
 |CX d a n r m=>
  intro b q
  cases q with
  |DL=>exact A_ a c.dF
  |CX k o p v=>obtain⟨i,j⟩:=a.C3 o;subst i;subst j;have:=m k;subst this;exact h.X.W.IU _ _ _ _ n p (by omega)
theorem RC.C3(d:Ex l t u s)(e:Ex l t u f){a c b:D}(g:RC s f a b)(h:RC s f c b):c=a:=RC.fn e d g.symm h.symm
theorem RC.up(h:Ex l t u s){a b e c:D}(i:RC s f a b)(d:By s a e c):∃g,RC s f e g/\By f b g c/\(f.at b).As=(s.at a).As:=by
 cases i with
 |DL=>exact A_ d h.dF
 |CX n j o p=>obtain⟨k,m⟩:=d.C3 j;grind
theorem Ex.up(i:Ex l t u s){e a b:D}(d:By s e a b):a<s.T.l/\((AL l s a b).op=8\/(AL l s a b).op=9)/\CO l (AL l s a b).Bk=(s.at e).A4:=by
 obtain⟨v,r,q,o,c,h,n⟩:=i.X.up d.1 (by rw[d.2.1];omega);obtain⟨j,k⟩:=h.C3 d;subst j;subst k;obtain⟨p,g⟩:=c.FM;have m:AL l s a b=o:=by unfold AL;rw[g.BB,c.hn];rfl
 rw[m];exact⟨n,c.op,c.CO⟩
theorem RC.A4(b:Ex l t u s)(c:Ex l t u f){e g:D}(d:RC s f e g):(f.at g).A4=(s.at e).A4:=by
 induction d with
 |DL=>rw[b.J.DL.2,c.J.DL.2]
 |CX d i j k h=>rw[<-(b.up i).2.2,<-(c.up j).2.2,(λa=>by unfold AL Ch;rw[h]:∀a,AL l f _ a=AL l s _ a)]
theorem RC.BB(c:Ex l t u s)(d:Ex l t u f){a b:D}(e:RC s f a b):Ch l (f.at b)=Ch l (s.at a):=by unfold Ch;rw[e.A4 c d]
theorem RC.Ao(d:Ex l t u s)(e:Ex l t u f){a b:D}(g:RC s f a b)(c:D):AL l f b c=AL l s a c:=by unfold AL;rw[g.BB d e]
theorem fj{a:M}(e:I0 a=Ac):(C7 [] a).2.1.Ai=5:=by
 unfold C7;unfold I0 at e;by_cases c:a.Ai=5;.grind
 rw[Ad c];by_cases b:a.Ai≠1;.rw[Af b];rfl
 rw[Ad b];by_cases d:BY a.n 0 100=Ac;.rw[Af d];rfl
 grind
theorem ej{a b:D}(c:DB (a:K)=DB (b:K)):a=b:=by have:(a:K)=b:=Aij M.n c;omega
theorem IA.at(h:Ex l t u s){a b c:D}(i:IA l s a b c):t.l<=c/\c<s.Ae.l/\I0 (Am l s a b 0)=L/\(D5 s.Ae c).l=(Am l s a b 0).n.n:=by
 obtain⟨j,k,m,n⟩:=i
 have e:=(h.J.Ao a b j m).alloc k
 cases d:I0 (Am l s a b 0)with
 |false=>have:=e.2 d;rw[n]at this;have g:=fj d;rw[<-this]at g;exact A_ g (by omega:¬(4:Int)=5)
 |true=>obtain⟨o,_⟩:=e.1 d;have:o=c:=ej P;grind
theorem RS.symm{b c:D}(a:RS l t.l s f b c):RS l t.l f s c b:=by
 cases a with
 |BX a=>exact .BX a
 |V a d e=>exact .V a.symm e d
theorem RS.fn(a:Ex l t u s)(i:Ex l t u f){e g h:D}(c:RS l t.l s f e g)(d:RS l t.l s f e h):h=g:=by
 cases c with
 |BX c=>
  cases d with
  |BX _=>rfl
  |V _ b _=>have:=(b.at a).1;omega
 |V c b k=>
  cases d with
  |BX d=>have:=(b.at a).1;omega
  |V p j m=>obtain⟨n,o⟩:=a.J.C3 _ _ _ _ _ b j;subst n;subst o;have:=RC.fn a i c p;subst this;exact(ej (k.2.2.2.s.t m.2.2.2)).s
theorem RS.lt(a:Ex l t u s)(b:Ex l t u f){d e:D}(c:RS l t.l s f d e):d<s.Ae.l/\e<f.Ae.l:=by
 cases c with
 |BX c=>have:=a.J.Ae.AX;have:=b.J.Ae.AX;omega
 |V _ g h=>exact⟨(g.at a).2.1,(h.at b).2.1⟩
theorem RV.Ai{a b:M}(c:RV l t.l s f a b):b.Ai=a.Ai:=by cases c<;>rfl
theorem RV.eq{a b:M}(c:RV l t.l s f a b)(d:a.Ai≠4):b=a:=by
 cases c with
 |BG _=>rfl
 |Jj _=>exact A_ B d
theorem RV.WH{b:D}{e:M}(a:RV l t.l s f (DB b) e):∃c:D,e=DB c/\RS l t.l s f b c:=by
 generalize d:DB (b:K)=i at a
 cases a with
 |BG g=>subst d;exact A_ B g
 | @Jj h c a=>have:=ej d;grind
structure DQ(l:C Ab)(t:C AG)(s f:Ah):Prop where
 Jn:∀a,a<s.T.l->∃b,RC s f a b
 Ep:∀a b,RC s f a b->∀c,(BQ (s.at a) c).Ai≠0->RV l t.l s f (BQ (s.at a) c) (BQ (f.at b) c)
 Aw:∀a b,RC s f a b->∀d c,(Bg (s.at a) d c).Ai≠0->RV l t.l s f (Bg (s.at a) d c) (Bg (f.at b) d c)
 AI:∀a b,RC s f a b->∀d,0<BW (s.at a) d->0<BW (f.at b) d
 BS:∀a b,RC s f a b->∀d c,(BT (s.at a) d c).is=L->BT (f.at b) d c=BT (s.at a) d c
theorem DQ.Dv(h:DQ l t s f){b e:D}(i:RC s f b e){c:AH}(a:(A9 (s.at b) c).Ai≠0):RV l t.l s f (A9 (s.at b) c) (A9 (f.at e) c):=by
 rw[PP]at a⊢;rw[PP];by_cases g:0<=c.Aw
 .rw[Af g]at a⊢;rw[Af g];by_cases d:c.Ao<0;.rw[Af d]at a⊢;rw[Af d];exact h.Ep b e i _ a
  .rw[Ad d]at a⊢;rw[Ad d];exact h.Aw b e i _ _ a
 .rw[Ad g]at a;exact A_ B a
theorem DQ.Am(j:Ex l t u s)(k:Ex l t u f)(i:DQ l t s f){c h:D}(g:RC s f c h){d e:D}(a:(Am l s c d e).Ai≠0):RV l t.l s f (Am l s c d e) (Am l f h d e):=by
 unfold YtmnfpdedgnfeiaaGreat.Am at*;rw[I9]at a⊢;rw[I9,g.Ao j k];split;.rename_i m b;rw[b]at a;exact i.Dv g a
 .rename_i b;rw[b]at a;exact A_ B a
theorem DQ.Cm(i:Ex l t u s)(j:Ex l t u f)(h:DQ l t s f){c g:D}(e:RC s f c g){d:D}(a:(DN l (s.at c) d).Ai≠0):RV l t.l s f (DN l (s.at c) d) (DN l (f.at g) d):=by
 unfold DN at*;rw[e.BB i j];split;.rename_i k b;rw[b]at a;exact h.Dv e a
 .rename_i b;rw[b]at a;exact A_ B a
theorem DQ.EO(e:Ex l t u s)(g:Ex l t u f)(d:DQ l t s f){a c:D}(b:RC s f a c)(h:(B8 l (s.at a)).Ai≠0):RV l t.l s f (B8 l (s.at a)) (B8 l (f.at c)):=by unfold B8 at*;rw[b.BB e g];exact d.Dv b h
theorem RC.Av{g:Ah}(a:Mo s g)(j:Ex l t u s){c d:D}(b:RC s f c d):RC g f c d:=by
 induction b with
 |DL=>exact .DL
 |CX b e i k h=>exact .CX h (a.CX e) i (by rw[a.As e.1];omega)
theorem Mo.vA{h:Ah}(i:Mo s h){a e d:D}(b:By h a e d)(c:a<s.T.l):By s a e d:=by have g:=i.BG a c;exact⟨c,g.AN.s.t b.2.1,g.Ao.s.t b.2.2⟩
theorem RC.GA{h:Ah}(b:Mo s h)(i:Ex l t u s){a e:D}(c:RC h f a e):a<s.T.l->RC s f a e:=by
 induction c with
 |DL=>exactλ_=>.DL
 | @CX q r n o p c k m v j=>intro d;have g:=b.vA k d;exact .CX (j (i.up g).1) g m (by rw[<-b.As d];omega)
theorem IA.Av{g:Ah}(a:Mo s g){c d e:D}(h:IA l s c d e):IA l g c d e:=by obtain⟨b,k,i,j⟩:=h;exact⟨Aik b a.AX,by rw[a.Ao b];omega,a.fm c d b i,by rw[(a.Av c b).Aw d 0 (by rw[j];exact(by omega:(4:Int)≠0))];omega⟩
theorem RS.Av{e:Ah}(b:Mo s e)(g:Ex l t u s){c d:D}(a:RS l t.l s f c d):RS l t.l e f c d:=by
 cases a with
 |BX a=>exact .BX a
 |V a h i=>exact .V (a.Av b g) (h.Av b) i
theorem RV.Av{b:Ah}(e:Mo s b)(g:Ex l t u s){c d:M}(a:RV l t.l s f c d):RV l t.l b f c d:=by
 cases a with
 |BG a=>exact .BG a
 |Jj a=>exact .Jj (a.Av e g)
end
