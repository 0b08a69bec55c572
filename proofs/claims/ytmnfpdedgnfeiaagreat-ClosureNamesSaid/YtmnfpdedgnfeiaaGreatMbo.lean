/- Part of the proof. -/
import Derived.Test.YtmnfpdedgnfeiaaGreatMbn
set_option linter.all false
noncomputable section
open Option renaming some->A,none->O,getD->Option.g
open _root_ renaming rfl->B,List->C,Nat->D,Int->K,if_neg->Ad,if_pos->Af,Bool->Ak,absurd->A_
open Bool renaming true->L,false->Ac
open Decidable renaming decide->Au
open Nat renaming le_refl->C6
open List renaming length->List.l,map->List.m,take->List.t
open Go.IntKind renaming i64->Go.IntKind.n
open Array renaming toList->Array.l
open Eq renaming trans->Eq.t,symm->Eq.s
open Or renaming inl->Or.i,inr->Or.j
open Int renaming toNat->Int.n
namespace Go.Proofs.YtmnfpdedgnfeiaaGreat
open Go.Fg
section
variable{l:C Ab} {t:C AG} {u:C M} {s f:Ah}
def OM(l:C Ab)(t:C AG)(s f:Ah):Prop:=∀a b,a<s.T.l->0<BW (s.at a) b->(AL l s a b).op=10\/(AL l s a b).op=11->∃c,RC s f a c/\0<BW (f.at c) b/\∀d,(Am l s a b d).Ai≠0->RV l t.l s f (Am l s a b d) (Am l f c b d)
theorem DQ.AT(e:Ex l t u s)(g:Ex l t u f)(a:DQ l t s f):OM l t s f:=λc j i h _=>by obtain⟨d,b⟩:=a.Jn c i;exact⟨d,b,a.AI c d b j h,λm k=>a.Am e g b k⟩
theorem AaG{t:C AG}(d:∀b a,BN t.l (DD t b a))(b a:D):RV l t.l s f (DD t b a) (DD t b a):=by
 by_cases c:(DD t b a).Ai=4;.have:=Ow (d b a) c;have e:DD t b a=DB ((DD t b a).n.n:K):=OI c (by omega);rw[e];exact .Jj (.BX this.2)
 .exact .BG c
theorem Vw(c:Ex l t u s)(e:Ex l t u f)(j:OM l t s f)(k:Bj l){d i:D}(b:RS l t.l s f d i):(D5 f.Ae i).l=(D5 s.Ae d).l:=by
 cases b with
 |BX b=>rw[c.J.Ae.BG d b,e.J.Ae.BG d b]
 | @V g r h _ _ b a m=>
  obtain⟨_,_,p,w⟩:=a.at c;obtain⟨_⟩:=m.at e;obtain⟨v,o,_,q⟩:=j g h a.1 a.2.2.1 (.i a.2.1);have n:=RC.fn c e b o;subst n;have x:(Am l s g h 0).Ai=1:=by unfold I0 at p;grind
  have:=(q 0 (c.J.AT k c.X a.1 a.2.2.1 0 (by omega) (.j (.i ⟨a.2.1,by omega⟩)))).eq (by omega);grind
theorem bb(a:Ex l t u s)(c:Ex l t u f)(y:∀d b,BN t.l (DD t d b))(m:OM l t s f)(g:Bj l){d w b:D}(h:RS l t.l s f d w)(Q:(DD s.Ae d b).Ai≠0):RV l t.l s f (DD s.Ae d b) (DD f.Ae w b):=by
 obtain⟨k,e⟩:=a.J.wr d b Q
 cases k with
 |none=>have E:=RS.fn a c (.BX (Vu e).1) h;subst E;rw[a.J.Ae.Ms _ b e,c.J.Ae.Ms _ b e];exact AaG y _ b
 |some k=>obtain⟨r,i⟩:=k;have R:=(a.J.TW g a.X e).2 r i B;obtain⟨n,V,o,I,p,_⟩:=e;obtain⟨v,q,J,j⟩:=m r i n o Om;have W:=a.J.AT g a.X n o;have x:=j 0 P;have T:=j 1 P;have X:=j 2 P;rw[I]at x;obtain⟨S,F,M⟩:=x.WH;have H:=RS.fn a c h M;subst H;have G:=(T.eq (by rw[p];exact(by omega:(1:Int)≠4))).t p;have U:=Vw a c m g h;have N:=(q.lt a c).2;have z:Wr l t f S b (A (v,i)):=⟨N,by rw[q.Ao a c];omega,J,F,G,(h.lt a c).2,by omega⟩;rw[R,(c.J.TW g c.X z).2 v i B];omega
theorem sr(k:Ex l t u s)(n:Ex l t u f)(i:OM l t s f)(j:Bj l){c e d g:M}(r:RV l t.l s f c d)(v:RV l t.l s f e g):Dp f.Ae d g=Dp s.Ae c e:=by
 unfold Dp
 cases r with
 |BG h=>simp[h]
 | @Jj a b q=>
  cases v with
  |Jj _=>simp[DB]
  |BG h=>have:=Vw k n i j q;have o:(DB (a:K)).n.n=a:=Aif a;have p:(DB (b:K)).n.n=b:=Aif b;rw[(Qg (b:=s.Ae) (show 0<=(DB (a:K)).n from Ai8 a)),(Qg (b:=f.Ae) (show 0<=(DB (b:K)).n from Ai8 b)),o,p,this];rfl
theorem qr(n:Ex l t u s)(o:Ex l t u f)(j:∀c d,BN t.l (DD t c d))(k:OM l t s f)(m:Bj l){a b e g:M}(r:RV l t.l s f a e)(v:RV l t.l s f b g)(w:Dp s.Ae a b=L)(h:(FI s.Ae a b).Ai≠0):RV l t.l s f (FI s.Ae a b) (FI f.Ae e g):=by
 obtain⟨x,y⟩:=O2 w
 have p:=v.eq (by omega)
 subst p
 cases r with
 |BG d=>exact A_ x d
 | @Jj c i q=>rw[KE (Ai8 c:0<=(DB (c:K)).n)]at h⊢;rw[KE (Ai8 i:0<=(DB (i:K)).n)];exact bb n o j k m q h
theorem Aci(i:Ex l t u s)(j:Ex l t u f)(q:∀x w,BN t.l (DD t x w))(g:OM l t s f)(h:Bj l){b c k m:M}(d:RV l t.l s f b k)(e:RV l t.l s f c m)(a:(Ko s.Ae b c).Ai≠0):RV l t.l s f (Ko s.Ae b c) (Ko f.Ae k m):=by
 unfold Ko at a⊢;rw[d.Ai,e.Ai,(sr i j g h d e)];by_cases r:b.Ai=5;.grind
 simp only[Ad r]at a⊢;by_cases v:c.Ai=5;.grind
 simp only[Ad v]at a⊢;by_cases n:b.Ai=3;.simp only[Af n]at a⊢;exact .BG (by omega:(5:Int)≠4)
 simp only[Ad n]at a⊢;by_cases o:b.Ai≠4\/c.Ai≠1;.simp only[Af o]at a⊢;exact .BG (by omega:(5:Int)≠4)
 simp only[Ad o]at a⊢;by_cases p:Dp s.Ae b c=Ac;.simp only[Af p]at a⊢;exact .BG (by omega:(5:Int)≠4)
 simp only[Ad p]at a⊢;exact qr i j q g h d e (by grind) a
theorem AeN{a c b d:M}(g:RV l t.l s f a b)(i:RV l t.l s f c d):(D1 b d).1=(D1 a c).1/\RV l t.l s f (D1 a c).2 (D1 b d).2:=by
 unfold D1;rw[g.Ai];by_cases e:a.Ai=2;.simp only[Af e];rw[g.eq (by omega)];grind
 simp only[Ad e];by_cases h:a.Ai=5;.grind
 simp only[Ad h];exact⟨Ais,.BG (by omega:(5:Int)≠4)⟩
inductive RL(l:C Ab)(a:D)(s f:Ah):C M->C M->Prop
 |nil:RL l a s f [] []
 |cons {d e:M} {b c:C M}:RV l a s f d e->RL l a s f b c->RL l a s f (d::b) (e::c)
theorem RL.AX{a b:C M}(c:RL l t.l s f a b):b.l=a.l:=by
 induction c with
 |nil=>rfl
 |cons _ _ d=>grind
theorem RL.N{b c:C M}(d:RL l t.l s f b c):∀(a:D),RV l t.l s f ((b[a]?).g AK) ((c[a]?).g AK):=by
 induction d with
 |nil=>intro a;exact .BG (by omega:(0:Int)≠4)
 |cons e _ g=>grind
theorem RL.of{e:Type}{c d:e->M}:∀{a:C e},(∀b∈a,RV l t.l s f (c b) (d b))->RL l t.l s f (a.m c) (a.m d)
 |[],_=>.nil
 |b::a,g=>.cons P (RL.of P)
theorem oC{b c:C M}(g:RL l t.l s f b c):(c.any λa=>Au (a.Ai=5))=(b.any λa=>Au (a.Ai=5))/\EL c=EL b:=by
 induction g with
 |nil=>grind
 | @cons a m j k e _ i=>
  have h:=e.Ai;refine⟨by grind,?_⟩;unfold EL;rw[h];by_cases d:a.Ai=5;.rw[Af d,Af d];exact e.eq (by omega)
  grind
theorem fD:∀{a:C M},(EL a).Ai=5\/EL a=AK
 |[]=>.j B
 |c::d=>by
  unfold EL;by_cases b:c.Ai=5;.grind
  .rw[Ad b];exact fD
theorem Z0(c:B0){a b:M}(d:a.Ai=4\/b.Ai=4/\c≠SD):Kw c a b=D2 5:=by unfold Kw;grind
theorem Aej(a:K):(G8 a).Ai≠4:=by
 unfold G8;split;.exact(by omega:(1:Int)≠4)
 .exact(by omega:(5:Int)≠4)
theorem oY(a:Ak):(ET a).Ai≠4:=by cases a<;>decide
theorem Ady(c:B0)(a b:M):(Kw c a b).Ai≠4:=by
 unfold Kw Oj N1
 repeat' split
 all_goals first|exact Aej _|exact oY _|exact(by omega:(5:Int)≠4)
theorem AdB(a:B0){b c d e:M}(g:RV l t.l s f b d)(h:RV l t.l s f c e):Kw a d e=Kw a b c:=by
 have m:=g.Ai;have n:=h.Ai;by_cases i:b.Ai=4;.rw[Z0 a Om,Z0 a Om]
 .rw[g.eq i];by_cases j:c.Ai=4
  .by_cases k:a=SD;.unfold Kw;grind
   .rw[Z0 a P,Z0 a P]
  .rw[h.eq j]
theorem mn{b:C AG}{a:D}(d:a<b.l):HI b (DB a)=Ed ((D5 b a).l:K):=by
 have c:G_ b (DB (a:K)).n=b[a]? :=by unfold G_;have:0<=(DB (a:K)).n:=Ai8 a;rw[Af this];rfl
 unfold HI D5;rw[c,AiW d];rfl
theorem AcB(n:Ex l t u s)(o:Ex l t u f)(v:OM l t s f)(w:Bj l)(d:AD){b e:C M}(g:RL l t.l s f b e):RV l t.l s f (M9 s.Ae d b) (M9 f.Ae d e):=by
 unfold M9;have k:RV l t.l s f (Cd b 0) (Cd e 0):=g.N 0;by_cases j:d.op=4
 .rw[Af j,Af j];unfold Iu;obtain⟨F,G⟩:=oC g;rw[F];split
  .rw[G];refine .BG ?_;rcases fD (a:=b)with r|r;.omega
   .rw[r];decide
  .have y:RV l t.l s f (Qp b) (Qp e):=by
    cases g with
    |nil=>exact .BG (by omega:(0:Int)≠4)
    |cons z _=>exact z
   have E:RV l t.l s f (Ps b) (Ps e):=by unfold Ps;rw[g.AX];exact g.N _
   rw[AdB d.Bk y E];exact .BG (Ady _ _ _)
 rw[Ad j,Ad j];by_cases p:d.op=7;.grind
 rw[Ad p,Ad p];by_cases h:d.op=13
 .rw[Af h,Af h]
  generalize Cd b 0=m at*
  generalize Cd e 0=P at*
  cases k with
  |BG H=>
   have x:HI s.Ae m=HI f.Ae m:=by unfold HI;grind
   rw[x];refine .BG ?_;unfold HI;by_cases c:m.Ai=5;.grind
   .rw[Ad c,Ad H];exact(by omega:(5:Int)≠4)
  | @Jj J N q=>have I:=q.lt n o;rw[mn Om,mn Om,Vw n o v w q];exact .BG (by omega:(1:Int)≠4)
 rw[Ad h,Ad h];by_cases i:d.op=14
 .rw[Af i,Af i];unfold MS;rw[k.Ai];by_cases c:(Cd b 0).Ai=5;.grind
  rw[Ad c,Ad c];split;.exact .BG (by decide)
  .split;.exact .BG (by decide)
   .exact .BG (by decide)
 rw[Ad i,Ad i];unfold KF;rw[k.Ai];by_cases c:(Cd b 0).Ai=5;.grind
 rw[Ad c,Ad c];split;.exact .BG (by decide)
 .split;.exact .BG (by omega:(2:Int)≠4)
  .exact .BG (by omega:(1:Int)≠4)
theorem Q1(e:Ex l t u s){a b d:D}(p:a<s.T.l)(c:(Bg (s.at a) b d).Ai≠0):0<BW (s.at a) b/\(d:K)<C_ l (AL l s a b):=by
 have h:0<BW (s.at a) b:=by
  rcases Int.lt_or_eq_of_le (e.X.W.f0 a b)with o|o;.omega
  .exact A_ (e.X.W.Ff a b Om d).1 c
 refine⟨h,?_⟩;obtain⟨v,w,r,g,q,n⟩:=TU e.X p h;obtain⟨k,j⟩:=Bo (b:=(s.at a).AB) (a:=b) (by rw[g.AB];grind);rw[n,<-(g.Aw b r k q j)];unfold Bg EQ at c;rw[j,Aiz]at c;rcases AiS d k.l with m|m;.omega
 .rw[Aji m]at c;exact A_ B c
theorem kF(d:Ex l t u s)(g:Ex l t u f)(xj:∀xd c,BN t.l (DD t xd c))(X:OM l t s f)(i:Bj l)(Y:K0 l f){b e a:D}(Q:RC s f b e)(x:0<BW (s.at b) a)(w:0<BW (f.at e) a)(j:∀c,(Am l s b a c).Ai≠0->RV l t.l s f (Am l s b a c) (Am l f e a c))(xs:¬((AL l s b a).op=8\/(AL l s b a).op=9)){c:D}(m:(Bg (s.at b) a c).Ai≠0):RV l t.l s f (Bg (s.at b) a c) (Bg (f.at e) a c):=by
 have xH:=Q.lt d g;have h:=d.J.Ao b a Om x;have p:=g.J.Ao e a Om w;have v:=Q.Ao d g a;have xg:=d.J.AT i d.X Om x;have xb:=(Q1 d Om m).2;obtain⟨xk,xm,xw,xi,xt,xq⟩:=TU d.X Om x;have W:=((i.A4 xk xm xi.hb).Ao a xw xt);have xx:=W.op;rw[<-xq]at xx W;by_cases J:(AL l s b a).op=5
 .obtain⟨xp,xF⟩:=AeN (j 0 (xg 0 (by omega) (by omega))) (j 1 (xg 1 (by omega) (by omega)));rw[(h.sw J)]at m⊢;rw[(p.sw (by rw[v];exact J)),xp];by_cases xn:c=(D1 (Am l s b a 0) (Am l s b a 1)).1.n;.grind
  .rw[Ad xn]at m;exact A_ B m
 have:=(λxG=>by unfold C_ at xb;omega:(AL l s b a).op≠5->c=0) J
 subst this;by_cases xo:(AL l s b a).op=12;.rw[h.AU xo]at m⊢;rw[p.AU (by grind)];exact Aci d g xj X i P P m
 by_cases Z:(AL l s b a).op=10
 .have V:=h.alloc Z
  have G:=p.alloc (by grind)
  have E:=j 0 P
  have xr:I0 (Am l f e a 0)=I0 (Am l s b a 0):=by
   unfold I0;rw[E.Ai];by_cases F:(Am l s b a 0).Ai=1;.rw[E.eq (by omega)]
   grind
  rw[xr]at G
  cases q:I0 (Am l s b a 0)with
  |true=>obtain⟨xd,xe,_⟩:=V.1 q;obtain⟨xK,xf,_⟩:=G.1 q;rw[xe,xf];exact .Jj (.V Q ⟨Om,Z,x,xe⟩ ⟨Om,by grind,w,xf⟩)
  |false=>
   rw[V.2 q,G.2 q];have xI:=fj q;by_cases F:(Am l s b a 0).Ai=4
   .have:∀S:M,S.Ai=4->(C7 [] S).2.1=D2 5:=λS j=>by
     unfold C7
     grind
    rw[this _ F,this _ (E.Ai.t F)]
    exact .BG (by omega:(5:Int)≠4)
   .rw[E.eq F];exact .BG (by omega)
 by_cases xa:(AL l s b a).op=6
 .obtain⟨k,xz,xl,xA⟩:=h.QK xa;obtain⟨y,xB,r,xC⟩:=p.QK (by grind);have z:(Am l f e a k).Ai≠0:=by rw[(j k xl).Ai];omega
  have xE:y=k:=by
   rcases Nat.lt_trichotomy y k with xc|xc|xc
   .exfalso;have U:y=0:=by omega
    have T:k=1:=by omega
    subst U;subst T;obtain⟨H,I,n,o,R,N⟩:=TU g.X Om w;have:=Y.QK (f.at e) (Ail (Cu Om)) n (by rw[o.BB];grind);unfold Gy at this;have xy:=((i.A4 H I o.hb).Ao a n R).KU (by grind);have xJ:n.op=6:=by grind
    unfold Am at r z;rw[I9,N,AiW (by omega)]at r z;grind
   .omega
   .exfalso;have U:y=1:=by omega
    have T:k=0:=by omega
    subst U;subst T;obtain⟨H,I,n,o,R,N⟩:=TU g.X Om w;have:=Y.QK (f.at e) (Ail (Cu Om)) n (by rw[o.BB];grind);unfold Gy at this;have xy:=((i.A4 H I o.hb).Ao a n R).KU (by grind);unfold Am at r z;rw[I9,N,AiW (by omega)]at r z;grind
  grind
 by_cases xD:(AL l s b a).op=11;.unfold C_ at xb;omega
 rw[h.Q4 Om,p.Q4 (by grind),v];refine AcB d g X i _ ?_;unfold Dr;rw[v];refine RL.of λxL xu=> ?_;obtain⟨xh,xv⟩:=Ajh.1 xu;have:=j xh (h.all xs xa xh P);unfold Am at this;rw[I9,I9,v,xv]at this;omega
end
section
variable{l:C Ab} {u:C AG} {v:C M} {s t f:Ah}
theorem PR{a b:M}(c:RV l u.l s f a b)(d:a.Ai≠0):b.Ai≠0:=by rw[c.Ai];omega
theorem dz(i:Ex l u v s)(j:Ex l u v f)(x:K0 l f)(o:DQ l u s f){a r k:D}(p:By s a r k)(q:(B8 l (s.at a)).Ai≠0)(I:(B8 l (s.at a)).Ai≠5)(J:(Ch l (s.at a)).A6.l≠0):∃b d c,RC s f a b/\RC s f r d/\By f b d k/\(f.at b).next=((c:D):K)/\By f c d k/\(f.at c).As=(s.at a).As+1/\∀(m:D)(n:AH),(Ch l (s.at a)).A6[m]? =A n->(A9 (f.at b) n).Ai≠0->(BQ (f.at c) m).Ai≠0:=by obtain⟨b,h⟩:=o.Jn a p.1;obtain⟨d,z,e,H⟩:=h.up i p;have w:=o.EO i j h q;obtain⟨F,G⟩:=x.next b d k e (by rw[h.BB i j];omega) (PR w q) (by rw[w.Ai];omega);obtain⟨c,g,y⟩:=j.X.next e.1 F;refine⟨b,d,c,h,z,e,g.next,⟨y,g.AN.t e.2.1,g.Ao.t e.2.2⟩,by rw[g.As,H],λm n M E=> ?_⟩;have:=G m n (by rw[h.BB i j];omega) E;rw[g.next,Aif]at this;omega
theorem DQ.YU(xV:Bj l)(g:Ex l u v s)(I:Ex l u v t)(h:Ex l u v f)(T:K0 l f)(r:ID l s t)(n:DQ l u s f):DQ l u t f:=by
 have w:=r.mo;have xh:∀{a e},RC t f a e->a<s.T.l->RC s f a e:=λo p=>o.GA w g p;have Y:∀{y xu},RV l u.l s f y xu->RV l u.l t f y xu:=λo=>o.Av w g;have xO:∀{a b c},(Bg (t.at a) b c).Ai≠0->a<s.T.l:=λ{a b c} m=>by
  rcases AiS a s.T.l with d|d;.omega
  .exact A_ (r.Wg a b c d).1 m
 have xI:∀a e b c,RC s f a e->(BT (t.at a) b c).is=L->BT (f.at e) b c=BT (t.at a) b c/\((Bg (t.at a) b c).Ai≠0->Bg (t.at a) b c=Bg (s.at a) b c\/RV l u.l s f (Bg (t.at a) b c) (Bg (f.at e) b c)):=λa e b c F W=>by
  rcases r.BS a b c W with⟨xs,xt⟩|⟨xP,J,z,xg,q⟩;.exact⟨by rw[xs]at W⊢;exact n.BS a e F b c W,P⟩
  .obtain⟨M,R⟩:=n.Jn J z.1;obtain⟨G,xn,H,x5⟩:=R.up g z;have xE:=RC.fn g h F xn;subst xE;have x7:∀Q:BC,Q.is=L->Q.As=(s.at J).As->∀N,Q.next=N->Q=⟨(s.at J).As,N,L⟩:=λQ xZ xn N x0=>by obtain⟨_⟩:=Q;grind
   rcases q with⟨xC,xD,xl⟩|⟨xC,xD,xl,xX⟩;.have y:=n.Cm g h R (by rw[<-xl];omega);have xS:=T.Bs M G b H c (by rw[R.BB g h];omega) (PR y (by grind));obtain⟨xd,xb,_⟩:=h.J.BS G b c (by grind);have xi:=h.X.W.IU _ _ _ _ H xb (by grind);grind
   .have y:=n.EO g h R (by omega);have x4:=(Q1 I (Aik P w.AX) xP).2;have x2:=F.lt g h;obtain⟨xW,N,Z⟩:=h.X.W.sh.Bw G _ (Cu Om);have xq:=(g.up z).2.1;have xY:AL l f G b=AL l t a b:=by rw[F.Ao g h,w.Ao Om]
    have xK:c<(((f.at G).AB[b]?).g []).l:=by
     have xJ:b<N.Ay.l:=by
      rcases AiS b N.Ay.l with d|d;.omega
      .exfalso;have X:AL l f G b=M6:=by unfold AL;rw[Z.BB,Aji d];rfl
       rw[F.Ao g h]at X;rw[X]at xq;exact A_ xq (by decide)
     obtain⟨xr,xe⟩:=Bo xJ;obtain⟨xN,xL⟩:=Bo (b:=(f.at G).AB) (a:=b) (by rw[Z.AB];omega);have x3:=Z.Aw b xr xN xe xL;have:AL l f G b=xr:=by unfold AL;rw[Z.BB,xe];rfl
     grind
    have xS:=T.ag M G b H (by rw[R.BB g h];omega) (by rw[y.Ai];omega) c xK;obtain⟨xd,xb,_⟩:=h.J.BS G b c (by grind);have xi:=h.X.W.IU _ _ _ _ H xb (by grind);grind
 exact{
  Jn:=λa p=>by
   by_cases d:a<s.T.l;.obtain⟨e,o⟩:=n.Jn a d;exact⟨e,o.Av w g⟩
   .obtain⟨d,S,b,z,H,xg,E,xj,xe⟩:=r.E9 a (by omega) p;obtain⟨xm,xf,M,F,V,xb,_,xy,_⟩:=dz g h T n z E xj xe;exact⟨M,.CX (V.Av w g) H xy (by omega)⟩
  Ep:=λa e o c m=>by
   have p:=(o.lt I h).1;by_cases X:a=0;.subst X;rw[r.L4]at m⊢;exact Y (n.Ep 0 e (xh o g.J.F_) c m)
   .obtain⟨S,b,z⟩:∃S b,By t a S b:=by
     by_cases d:(t.at a).AN= -1
     .exact A_ (I.X.W.sh.DL a _ (Cu p) d) X
     .obtain⟨_⟩:=I.X.up p d;grind
    have x6:=(I.X.W.sh.As a _ (Cu p)).1
    by_cases xM:(t.at a).As=0
    .obtain⟨xa,q⟩:=r.Ep a S b z xM c m;have E:=xh o xa.1;rcases q with q|q;.rw[q]at m⊢;exact Y (n.Ep a e E c m)
     .obtain⟨xf,V,H,xg⟩:=E.up g xa;have y:=n.Am g h V (d:=b) (e:=c) (by grind);rw[q]at y;have:=h.J.Ep e xf b H (by rw[xg,<-w.As xa.1];omega) c (T.args e xf b H (by rw[xg,<-w.As xa.1];omega) c (PR y m));grind
    .obtain⟨d,F,xp⟩:=I.X.V a S b z (by omega);obtain⟨U,q⟩:=r.L5 d a F xp c m;obtain⟨J,xc,R⟩:=I.X.next F (by omega);have xF:J=a:=by have:=xc.next;omega
     subst xF;rcases q with⟨xs,xt⟩|⟨xv,xw,xT⟩
     .obtain⟨xd,xB,x1⟩:=g.X.next U (by omega);have xi:xd=J:=by have:=xB.next;omega
      subst xi;rw[xt]at m⊢;exact Y (n.Ep xd e P c m)
     .obtain⟨_,E,xj⟩:=r.Zu d J F xp;obtain⟨xm,xf,M,xo,V,xz,xQ,xA,xR,xH⟩:=dz g h T n (⟨U,by rw[<-(w.BG d U).AN,<-xc.AN];exact z.2.1,by rw[<-(w.BG d U).Ao,<-xc.Ao];exact z.2.2⟩:By s d S b) E xj P;have y:=n.Dv xo (c:=xv) (by grind);rw[xT]at y;have xG:=RC.fn I h o (.CX (V.Av w g) z xA (by rw[xR,xc.As,w.As U]):RC t f J M);subst xG;obtain⟨x8,xU,x9⟩:=h.J.L5 xm M xz.1 xQ c (xH c xv xw (PR y m));rw[xo.BB g h,xw]at xU;grind
  Aw:=λa e o b c m=>by
   have p:=xO m;have E:=xh o p;rcases r.AB a b c p with q|⟨q,_⟩;.rw[q]at m⊢;exact Y (n.Aw a e E b c m)
   .rcases(xI a e b c E q).2 m with xx|xx;.rw[xx]at m⊢;exact Y (n.Aw a e E b c m)
    grind
  AI:=λa e o b xk=>by
   have p:a<s.T.l:=by
    rcases AiS a s.T.l with d|d;.omega
    .rw[r.KO a b d]at xk;omega
   rw[r.AI a b p]at xk;exact n.AI a e P b xk
  BS:=λa e o b c W=>by
   have p:a<s.T.l:=by
    rcases AiS a s.T.l with d|d;.omega
    .rw[(r.Wg a b c d).2]at W;grind
   grind}
theorem lK(N:Bj l)(g:Ex l u v s)(e:Ex l u v f)(x:DQ l u s f)(W:Bp l f=[]){m a b:D}(j:RC s f m a)(M:Gb l (s.at m) b=L):0<BW (f.at a) b:=by
 have T:=j.lt g e;refine Aih λw=> ?_;have w:BW (f.at a) b=0:=by have:=e.X.W.f0 a b;omega
 obtain⟨y,P,r,G,o,p,S,q⟩:=ZY g.X Om M;obtain⟨z,Q,d⟩:=e.X.W.sh.Bw a _ (Cu Om);have h:z=y:=by have:=j.A4 g e;have:=o.ha;have:=d.ha;omega
 subst h;have h:=AiI (d.hb.s.t o.hb);subst h;have U:=(Aid.1 p).1;obtain⟨H,I⟩:=Bo (b:=(f.at a).AI) (a:=b) (by rw[d.AI];omega);have F:H=0:=by unfold BW at w;grind
 have xa:∀n,Gd (s.at m) n=L->Gd (f.at a) n=L:=λn k=>by rw[U3]at k⊢;exact PR (x.Dv j k) k
 have Z:Gb l (f.at a) b=L:=by
  unfold Gb;rw[d.ha,Aif,d.hb];simp only[p,I];unfold FB at q⊢;rw[F,Ad (by omega)];by_cases E:G>0;.grind
  rw[Ad E]at q;by_cases R:r.op=8\/r.op=9;.grind
  grind
 have:(⟨(a:K),(b:K)⟩:A8)∈Bp l f:=by
  unfold Bp;have Y:∀c,a<c->(⟨(a:K),(b:K)⟩:A8)∈Ix l f.T c:=λc=>by
   induction c with
   |zero=>omega
   |succ c X=>
    intro V;unfold Ix;by_cases J:a=c;.subst J;refine Ajb _ ?_;rw[Cu Om];unfold JS;grind
    grind
  grind
 grind
theorem vl(m:Bj l)(n:Ex l u v s)(h:Mo s t){b c:D}(d:IZ l s b c)(y:∀a,BQ (t.at b) a=BQ (s.at b) a)(x:∀a g,a≠c->Bg (t.at b) a g=Bg (s.at b) a g)(e:D):Am l t b c e=Am l s b c e:=by
 obtain⟨o,p,k,w,i⟩:=d.Mi;unfold Am;rw[I9,I9,h.Ao d.hi];split
 .rename_i a z;rw[PP,PP];split
  .split;.grind
   .rename_i q;rcases(i.AT a P)with⟨j,_⟩|⟨E,F,j,r,_⟩<;>grind
  grind
 grind
theorem rc(M:Bj l)(Z:∀Y a,BN u.l (DD u Y a))(h:Ex l u v s)(x:Ex l u v t)(i:Ex l u v f)(T:K0 l f)(xx:Bp l f=[]){r F:D}(H:IZ l s r F)(Y:Gb l (s.at r) F=L)(m:KC l u s t r F)(q:DQ l u s f):DQ l u t f:=by
 have o:=m.mo;have xm:∀{r xc},RC t f r xc->r<s.T.l->RC s f r xc:=λk xt=>k.GA o h xt;have R:∀{G xi},RV l u.l s f G xi->RV l u.l t f G xi:=λk=>k.Av o h;obtain⟨xd,E⟩:=q.Jn r H.hi;have W:=lK M h i q xx E Y;have xf:∀{a b},0<BW (t.at a) b->a<s.T.l:=λ{a b} k=>by
  rcases AiS a s.T.l with n|n;.omega
  .rw[(m.KO a n).1 b]at k;omega
 have xL:∀a d,RC s f a d->∀b,0<BW (t.at a) b->0<BW (f.at d) b:=λa d k b p=>by
  by_cases w:a=r/\b=F;.obtain⟨rfl,rfl⟩:=w;have:=RC.fn h i k E;grind
  .rw[m.AI a b P w]at p;exact q.AI a d k b p
 have xz:∀a b,0<BW (t.at a) b->¬((AL l s a b).op=8\/(AL l s a b).op=9)->(AL l s a b).op≠6->∀c,(Am l t a b c).Ai≠0->(Am l s a b c).Ai≠0:=λa b p z Q c g=>by
  have e:=xf p;have xb:c<(AL l s a b).AT.l:=by
   unfold Am at g;rw[I9,o.Ao e]at g;rcases AiS c (AL l s a b).AT.l with n|n;.omega
   .rw[Aji n]at g;exact A_ B g
  by_cases w:a=r/\b=F;.obtain⟨rfl,rfl⟩:=w;exact H.AT z Q c xb
  .rw[m.AI a b e w]at p;exact(h.J.Ao a b e p).all z Q c xb
 have xC:∀a d,RC t f a d->∀b,(BQ (t.at a) b).Ai≠0->RV l u.l t f (BQ (t.at a) b) (BQ (f.at d) b):=λa d k b g=>by
  have e:=(k.lt x i).1;by_cases n:a<s.T.l;.rw[m.Ep a b n]at g⊢;exact R (q.Ep a d P b g)
  .obtain⟨z,N,I,xE,w⟩:=m.E9 a (by omega) e;obtain⟨xJ,xD⟩:=w b g;subst xJ;rw[xD]at g⊢;have G:=q.Am h i E g;obtain⟨xe,xu,J,xF⟩:=k.up x I;have V:=RC.fn x i (E.Av o h) xu;subst V;have xA:=T.args d xe F J (by omega) 0 (PR G g);rw[i.J.Ep d xe F J (by omega) 0 xA]at G;grind
 have xG:∀a,a<t.T.l->∃d,RC t f a d:=λa e=>by
  by_cases n:a<s.T.l;.obtain⟨d,k⟩:=q.Jn a n;exact⟨d,k.Av o h⟩
  .obtain⟨z,N,I,_⟩:=m.E9 a (by omega) e;have xv:=E.lt h i;have xj:=(i.J.Ao xd F Om W).EO (by rw[E.Ao h i];omega);have G:=q.Am h i E (H.EO z);obtain⟨xo,J,xF⟩:=xj.2.1 (by rw[G.Ai];omega);exact⟨xo,.CX (E.Av o h) I J (by omega)⟩
 have xO:∀a d,RC s f a d->∀b,0<BW (t.at a) b->¬((AL l s a b).op=8\/(AL l s a b).op=9)->(AL l s a b).op≠6->∀c,(Am l t a b c).Ai≠0->RV l u.l t f (Am l t a b c) (Am l f d b c):=λa d k b p z Q c g=>by have:=xz a b p z Q c g;rw[o.Am P this];exact R (q.Am h i k this)
 have xa:OM l u t f:=λa b e p xw=>by have y:=xf p;rw[o.Ao y]at xw;grind
 refine⟨xG,xC,λa d k b c g=> ?_,P,λa d k b c X=> ?_⟩
 .have e:a<s.T.l:=by
   rcases AiS a s.T.l with n|n
   .omega
   .exact A_ ((m.KO a n).2.2 b c).1 g
  have y:=xm k e
  have p:=(Q1 x (Aik e o.AX) g).1
  have xq:=o.Ao (e:=l) (d:=b) e
  by_cases w:a=r/\b=F
  .obtain⟨rfl,rfl⟩:=w;have xp:=RC.fn h i y E;subst xp;by_cases z:(AL l s a b).op=8\/(AL l s a b).op=9
   ·
    have S:=(x.J.Ao a b (Aik e o.AX) p).EO (by grind);have xh:=H.EO z;have xH:=q.Am h i y xh;have xv:=y.lt h i;rw[o.Am e xh]at S;by_cases N:(Am l s a b 0).Ai=5;.have xB:=(Q1 x (Aik e o.AX) g).2;have xk:=(i.J.Ao xd b Om W).EO (by rw[y.Ao h i];omega);rw[S.2.2 N c xB,xk.2.2 (by rw[xH.Ai];omega) c (by rw[y.Ao h i,<-xq];omega)];grind
    .exfalso;obtain⟨xn,I,xE⟩:=S.2.1 N;have:=((x.X.W.CX xn a b I).2 c).2;have xI:=m.FZ a b c e;have xy:=(h.X.W.Ff a b H.zero c).2;rw[xI,xy]at this;exact g (this B)
   .refine kF x i Z xa M T k p W (λxK xg=> ?_) (by grind) g;by_cases xr:(AL l s a b).op=11;.grind
    .have V:=vl M h o H (λU=>m.Ep a U e) (λU xl xM=>m.GH xr a U xl e Om) xK;rw[V]at xg⊢;exact R (q.Am h i y xg)
  .have xN:0<BW (s.at a) b:=by rw[<-m.AI a b e w];omega
   by_cases xs:(AL l s a b).op=12;.exact kF x i Z xa M T k p P P (by grind) g
   .rw[m.AB a b c e w xs]at g⊢;exact R (q.Aw a d y b c g)
 .have e:a<s.T.l:=by
   rcases AiS a s.T.l with n|n
   .omega
   .rw[((m.KO a n).2.2 b c).2]at X;grind
  rw[m.FZ a b c e]at X⊢
  exact q.BS a d P b c X
end
section
structure Tm(l:C Ab)(t:Ah->Prop):Prop extends Tl l t where
 KI:∀a (b c:D) d,Bn l a->b<a.T.l->Gb l (a.at b) c=L->0<d->(Ev l a ⟨b,c⟩ d).2=0->Bn l (Ev l a ⟨b,c⟩ d).1->t a->t (Ev l a ⟨b,c⟩ d).1
 re:∀a e,t a->t ⟨a.T,a.Ae,e,a.Aq⟩
def To(l:C Ab)(t:Ah->Prop)(c:K):Prop:=
 (∃a,Bn l a/\t a/\Ti l a c)\/∃a,∃b d:D,∃e,Bn l a/\t a/\b<a.T.l/\Gb l (a.at b) d=L/\0<e/\(Ev l a ⟨b,d⟩ e).2=c
structure ar(l:C Ab)(t:Ah->Prop)(a:Ah):Prop where
 K:GI l a
 q:t a
 Xb:K0 l a
 W0:Bp l a=[]
variable{l:C Ab} {t:Ah->Prop}
theorem hL(d:Tm l t){a:Ah}(f:Bn l a)(u:t a)(q:0<=a.round):∀b,b<=(Bp l a).l->((C1 l (Bp l a) (a.round+1) ⟨a.T,a.Ae,a.round+1,a.Aq⟩ b).2=0->t (C1 l (Bp l a) (a.round+1) ⟨a.T,a.Ae,a.round+1,a.Aq⟩ b).1)/\((C1 l (Bp l a) (a.round+1) ⟨a.T,a.Ae,a.round+1,a.Aq⟩ b).2≠0->To l t (C1 l (Bp l a) (a.round+1) ⟨a.T,a.Ae,a.round+1,a.Aq⟩ b).2)
 |0,_=>⟨λ_=>d.re a _ u,λv=>A_ B v⟩
 |b+1,E=>by
  have s:=hL d f u q b (by omega);obtain⟨G,m⟩:=Bo (b:=Bp l a) (a:=b) (by omega);rw[Yz m];by_cases p:(C1 l (Bp l a) (a.round+1) ⟨a.T,a.Ae,a.round+1,a.Aq⟩ b).2≠0;.rw[Af p];exact s
  .rw[Ad p];have c:=Oh d.pr f q b (by omega) Om;obtain⟨e,g,rfl,r,w⟩:=Sy (Ail m);have z:¬∃o,o<b/\(Bp l a)[o]? =A ⟨e,g⟩:=by
    rintro⟨o,F,x⟩
    have y:(Bp l a).Nodup:=WB l a.T _
    have:=(Akd (by omega) y).1 (x.t m.s)
    omega
   have n:=ZZ (f.MH f.W.Aq:Bn l ⟨a.T,a.Ae,a.round+1,a.Aq⟩) c.C0 (a:=e) (b:=g) r z w;have k:e<(C1 l (Bp l a) (a.round+1) ⟨a.T,a.Ae,a.round+1,a.Aq⟩ b).1.T.l:=Aik r c.C0.AX;refine⟨λh=>d.KI _ e g _ c.X k n (by omega) h (VN d.pr c.X k n (by omega) h).X P,λh=>.j ⟨_,e,g,_,c.X,s.1 Om,k,n,by omega,B⟩⟩
theorem AdJ(e:Tm l t){j n:D}(m:400<=j){a:Ah}(d:GI l a)(o:t a){b:Ah×K}(c:KS l j n a=A b):(b.2=0->t b.1/\K0 l b.1)/\(b.2≠0->To l t b.2):=by
 unfold KS at c;simp only[]at c;have k:=hL e d.X o d.r0 _ (C6 _);by_cases i:(C1 l (Bp l a) (a.round+1) ⟨a.T,a.Ae,a.round+1,a.Aq⟩ (Bp l a).l).2=0;.rw[Ad Om]at c;have h:=Oh e.pr d.X d.r0 _ Om i;have g:=YV e.toTl h.X (k.1 i) c;exact⟨λf=>⟨g.q,cE e.pr m h.X c f⟩,λf=>.i (g.bD f)⟩
 grind
theorem Z1(g:Tm l t){e k:D}(m:400<=e):∀{j:D}{b:Ah}{c:Ah×K},GI l b->t b->K0 l b->Iy l e k j b=A c->(c.2=0->ar l t c.1)/\(c.2≠0->To l t c.2)
 |0,b,c,_,_,_,a=>by cases a
 |j+1,b,c,f,n,p,a=>by
  unfold Iy at a;by_cases h:(Bp l b).l=0;.rw[Af h]at a;cases a;exact⟨λ_=>⟨f,n,p,P⟩,Om⟩
  .rw[Ad h]at a
   cases i:KS l e k b with
   |none=>grind
   |some d=>
    rw[i]at a;have a:(if d.2≠0 then A d else Iy l e k j d.1)=A c:=a;have q:=AdJ g m f n i;by_cases o:d.2=0;.rw[Ad Om]at a;exact Z1 g m (W3 g.pr f h i o) P P a
    grind
theorem dT(d:Tm l t){n w:D}(F:400<=n){o:C K}:∀{v:D}{a:Ah}{e:C A8}{c:Ah×C A8×K},GI l a->t a->K0 l a->IQ l n w o v a e=A c->(c.2.2=0->ar l t c.1/\c.1.round-a.round=c.1.Aq-a.Aq/\(c.2.1.l:K)-e.l=c.1.Aq-a.Aq)/\(c.2.2≠0->To l t c.2.2)
 |0,a,e,c,_,_,_,b=>by cases b
 |v+1,a,e,c,h,x,I,b=>by
  unfold IQ at b;by_cases q:(Bp l a).l=0;.rw[Af q]at b;cases b;exact⟨λ_=>⟨⟨h,x,I,P⟩,by grind,by grind⟩,P⟩
  .rw[Ad q]at b;have u:=Ail (WU q o a.Aq);generalize NP (Bp l a) o a.Aq=S at b u;obtain⟨f,g,rfl,r,s⟩:=Sy u;have p:Bn l ⟨a.T,a.Ae,a.round+1,a.Aq⟩:=h.X.MH h.X.W.Aq;have Q:=h.r0;by_cases m:(Ev l ⟨a.T,a.Ae,a.round+1,a.Aq⟩ ⟨f,g⟩ (a.round+1)).2=0
   .rw[Ad Om]at b
    have k:=VN d.pr p r s (by omega) m
    obtain⟨_,M,H⟩:=Zz d.pr h u m
    cases j:Hf l n w (Ev l ⟨a.T,a.Ae,a.round+1,a.Aq⟩ ⟨f,g⟩ (a.round+1)).1 with
    |none=>grind
    |some i=>
     rw[j]at b;obtain⟨G,N⟩:=H j;have y:=YV d.toTl k.X (d.KI _ f g _ p r s (by omega) m k.X (d.re a _ x)) j;have R:=(T2 j).2.1.t k.C0.round;have b:(if i.2≠0 then A (i.1,e++[⟨(f:K),(g:K)⟩],i.2)else IQ l n w o v i.1 (e++[⟨(f:K),(g:K)⟩]))=A c:=b;by_cases z:i.2=0;.rw[Ad Om]at b;have J:=dT d F G y.q (cE d.pr F k.X j z) b;grind
     .rw[Af z]at b;cases b;exact⟨P,λE=>.i (y.bD E)⟩
   .rw[Af m]at b;cases b;exact⟨P,λE=>.j ⟨_,f,g,_,p,d.re a _ x,r,s,by omega,B⟩⟩
theorem lD{a:Ah}{b c:D}(e:IZ l a b c):(AL l a b c).op=12\/(AL l a b c).op=11->(Am l a b c 0).Ai≠0/\(Am l a b c 1).Ai≠0:=λd=>by
 obtain⟨h,i,g,j,f⟩:=e.Mi;have:2<=(AL l a b c).AT.l:=by
  rcases d with d|d;.have:=f.KU (by omega);omega
  .have:=f.Xt d;omega
 exact⟨e.AT (by omega) (by omega) 0 (by omega),e.AT (by omega) (by omega) 1 (by omega)⟩
theorem JU.re{h:C AG}{i:C M}{d:Ah}(a:JU l h i d)(e:K):JU l h i ⟨d.T,d.Ae,e,d.Aq⟩:=
 ⟨a.F_,a.DL,a.L4,a.Ep,a.L5,a.BS,λq r p o=>by
  have c:=a.Ao q r p o
  exact⟨c.all,c.EO,c.store,c.sw,c.AU,c.alloc,c.QK,c.Q4⟩,a.Ae,a.CC,a.C3,λe f g=>by
  obtain⟨b,j⟩:=a.wr e f g
  cases b with
  |none=>exact⟨O,j⟩
  |some b=>exact⟨A b,j⟩,λe f b m g n=>by
  have k:∀b,Wr l h ⟨d.T,d.Ae,_,d.Aq⟩ e f b->Wr l h d e f b:=λb g=>by omega
  exact a.Lr e f b m (k b g) (k m n),a.My,a.GA,a.Hu⟩
theorem Mo.re{c b:Ah}(a:Mo c b)(d:K):Mo c ⟨b.T,b.Ae,d,b.Aq⟩:=⟨a.AX,a.BG,a.Av,a.nx,a.fm,a.FZ,a.Ae⟩
theorem V3(c:Bj l)(q:C AG)(n:C M)(r:Ah):Tm l (λe=>JU l q n e/\Mo r e)where
 pr:=c
 C0:=λe s d f i ⟨a,b⟩=>⟨a.YU c d f i,b.AQ i.mo⟩
 KI:=λe u v w d g k o p f ⟨a,b⟩=>by have h:=hH c d a g k o p;have j:=ZU c d g k;exact⟨a.KI c d f g j.zero (lD j) h,b.AQ h.mo⟩
 re:=λe m ⟨a,b⟩=>⟨a.re m,b.re m⟩
theorem RC.re{a b:Ah}{i:K}{d e:D}(c:RC a b d e):RC ⟨a.T,a.Ae,i,a.Aq⟩ b d e:=by
 induction c with
 |DL=>exact .DL
 |CX c g h j f=>exact .CX f g h j
theorem RC.ZV{a b:Ah}{i:K}{d e:D}(c:RC ⟨a.T,a.Ae,i,a.Aq⟩ b d e):RC a b d e:=by
 induction c with
 |DL=>exact .DL
 |CX c g h j f=>exact .CX f g h j
theorem RV.re{d:C AG}{b c:Ah}{i:K}{e f:M}(a:RV l d.l b c e f):RV l d.l ⟨b.T,b.Ae,i,b.Aq⟩ c e f:=by
 cases a with
 |BG a=>exact .BG a
 |Jj a=>
  cases a with
  |BX a=>exact .Jj (.BX a)
  |V a g h=>exact .Jj (.V a.re g h)
theorem DQ.re{j:C AG}{g i:Ah}(d:DQ l j g i)(m:K):DQ l j ⟨g.T,g.Ae,m,g.Aq⟩ i where
 Jn:=λb k=>by obtain⟨c,a⟩:=d.Jn b k;exact⟨c,a.re⟩
 Ep:=λb c a f h=>(d.Ep b c a.ZV f h).re
 Aw:=λb c a e f h=>(d.Aw b c a.ZV e f h).re
 AI:=λb c a e=>d.AI b c a.ZV e
 BS:=λb c a e f=>d.BS b c a.ZV e f
theorem js(b:Bj l){h:C AG}{q:C M}(u:∀j y,BN h.l (DD h j y)){i:Ah}(s:Ex l h q i)(r:K0 l i)(x:Bp l i=[]):Tm l (λg=>JU l h q g/\DQ l h g i)where
 pr:=b
 C0:=λg z c f p ⟨a,d⟩=>by have e:=a.YU b c f p;exact⟨e,d.YU b ⟨c,a⟩ ⟨f,e⟩ s r p⟩
 KI:=λg E F G c m n v w f ⟨a,d⟩=>by have o:=hH b c a m n v w;have k:=ZU b c m n;have e:=a.KI b c f m k.zero (lD k) o;exact⟨e,rc b u ⟨c,a⟩ ⟨f,e⟩ s r x k n o d⟩
 re:=λg j ⟨a,d⟩=>⟨a.re j,d.re j⟩
end
section
theorem SP{i h:Type}[DecidableEq h](e:i->h->Prop):∀{a:C i}{d:C h},a.Nodup->(∀c,c∈a->∃b,b∈d/\e c b)->(∀c g b,c∈a->g∈a->e c b->e g b->c=g)->a.l<=d.l
 |[],d,_,_,_=>AiO _
 |j::a,d,m,k,n=>by obtain⟨b,_⟩:=k j P;rw[AjM]at m;have:=SP e (a:=a) (d:=d.erase b) P P P;grind
theorem d0{j g:Type}[DecidableEq g](c:j->g->Prop){b:C j}{e:C g}(m:b.Nodup)(n:∀a,a∈b->∃d,d∈e/\c a d)(k:∀a i d,a∈b->i∈b->c a d->c i d->a=i){h:g}(p:h∈e)(o:∀a,a∈b->¬c a h):b.l<e.l:=by have:=SP c (a:=b) (d:=e.erase h) m P k;grind
variable{l:C Ab} {t:C AG} {u:C M} {s f:Ah}
theorem gF(b:Ex l t u s)(c:Ex l t u f)(g:DQ l t s f):s.T.l<=f.T.l:=by
 have:=SP (RC s f) (a:=List.range s.T.l) (d:=List.range f.T.l) AjQ (λd i=>by obtain⟨e,a⟩:=g.Jn d P;exact⟨e,AiT.2 (a.lt b c).2,a⟩) (λd j e _ _ a h=>(RC.C3 b c a h).s)
 grind
theorem gG(c:Ex l t u s)(d:Ex l t u f)(h:DQ l t s f){e:D}(i:e<f.T.l)(a:∀b,¬RC s f b e):s.T.l<f.T.l:=by
 have:=d0 (RC s f) (b:=List.range s.T.l) (e:=List.range f.T.l) AjQ (λb j=>by obtain⟨g,a⟩:=h.Jn b (AiT.1 j);exact⟨g,AiT.2 (a.lt c d).2,a⟩) (λb m g _ _ a k=>(RC.C3 c d a k).s) (AiT.2 i) (λb _=>a b)
 grind
theorem l3(o:Bj l)(g:Ex l t u s)(p:Ex l t u f)(c:DQ l t s f){a:D}(j:a<s.Ae.l):∃n,RS l t.l s f a n:=by
 by_cases h:a<t.l;.exact⟨a,.BX h⟩
 .obtain⟨d,m,b⟩:=g.J.CC a (by omega) j;obtain⟨k,i⟩:=c.Jn d b.1;have e:=c.Aw d k i m 0 (by rw[b.2.2.2];exact(by omega:(4:Int)≠0));rw[b.2.2.2]at e;obtain⟨_⟩:=e.WH;grind
theorem RS.C3(d:Ex l t u s)(e:Ex l t u f){b a c:D}(g:RS l t.l s f b c)(h:RS l t.l s f a c):a=b:=RS.fn e d g.symm h.symm
theorem kr(g:Bj l)(b:Ex l t u s)(c:Ex l t u f)(e:DQ l t s f):s.Ae.l<=f.Ae.l:=by
 have:=SP (RS l t.l s f) (a:=List.range s.Ae.l) (d:=List.range f.Ae.l) AjQ (λi h=>by obtain⟨d,a⟩:=l3 g b c e (AiT.1 h);exact⟨d,AiT.2 (a.lt b c).2,a⟩) (λi k d _ _ a j=>(RS.C3 b c a j).s)
 grind
theorem AaY(i:Bj l)(c:Ex l t u s)(d:Ex l t u f)(h:DQ l t s f){e:D}(j:e<f.Ae.l)(a:∀b,¬RS l t.l s f b e):s.Ae.l<f.Ae.l:=by
 have:=d0 (RS l t.l s f) (b:=List.range s.Ae.l) (e:=List.range f.Ae.l) AjQ (λb k=>by obtain⟨g,a⟩:=l3 i c d h (AiT.1 k);exact⟨g,AiT.2 (a.lt c d).2,a⟩) (λb n g _ _ a m=>(RS.C3 c d a m).s) (AiT.2 j) (λb _=>a b)
 grind
theorem YA(c:Ex l t u s)(d:Ex l t u f)(g:DQ l t s f):s.Aq<=f.Aq:=by
 obtain⟨h,p,y,q⟩:=c.J.Hu;obtain⟨i,w,x,o⟩:=d.J.Hu;have:=SP (λ(a e:D×D)=>RC s f a.1 e.1/\e.2=a.2) (a:=h) (d:=i) p (λa m=>by
  obtain⟨j,k⟩:=(q a.1 a.2).1 m;obtain⟨n,b⟩:=g.Jn a.1 j;exact⟨(n,a.2),(o _ _).2 ⟨(b.lt c d).2,g.AI _ _ b _ k⟩,b,B⟩) (λa z e _ _ b r=>by
  have v:=RC.C3 c d b.1 r.1;grind)
 omega
theorem sq(c:Ex l t u s)(e:Ex l t u f)(j:DQ l t s f){m g h:D}(b:RC s f m g)(F:BW (s.at m) h=0)(w:0<BW (f.at g) h):s.Aq<f.Aq:=by
 obtain⟨o,x,I,y⟩:=c.J.Hu;obtain⟨p,G,H,n⟩:=e.J.Hu;have:=d0 (λ(a i:D×D)=>RC s f a.1 i.1/\i.2=a.2) (b:=o) (e:=p) x (λa k=>by
  obtain⟨r,v⟩:=(y a.1 a.2).1 k;obtain⟨g,b⟩:=j.Jn a.1 r;exact⟨(g,a.2),(n _ _).2 ⟨(b.lt c e).2,j.AI _ _ b _ v⟩,b,B⟩) (λa N i _ _ b z=>by
  have q:=RC.C3 c e b.1 z.1;grind) (h:=(g,h)) ((n _ _).2 ⟨(b.lt c e).2,w⟩) (λa k ⟨E,J⟩=>by
  have q:=RC.C3 c e b E;grind)
 omega
theorem u6(H:Bj l)(b:Ex l t u s)(a:Ex l t u f)(m:K0 l f)(c:DQ l t s f){Q:K}(h:Ti l s Q):False:=by
 rcases h with⟨_,xi,j,G,p,g,x,R,S,V⟩|⟨_,j,G,p,y,xh,g,U,xj,n⟩|⟨_,xd,n,F,x,i⟩
 .obtain⟨xe,q,xg,n,o,e,xr,E,_⟩:=dz b a m c g R S V;have:=gG b a c E.1 λxa W=>by obtain⟨X,T,r,xv⟩:=RC.up a W.symm E;have w:=RC.C3 b a o T.symm;subst w;exact b.X.Gl g x (b.X.W.sh.As j _ (Cu g.1)).1 xa r (by omega)
  have:=a.X.W.sh.AX;omega
 .obtain⟨k,d⟩:=c.Jn j g.1;obtain⟨q,o,e,xu⟩:=d.up b g;have xw:=c.BS G q o p y U;rcases n with⟨J,M,v⟩|⟨J,M,v,xf⟩;.have:=m.Bs k q p e y (by rw[d.BB b a];omega) (PR (c.Cm b a d v) v);grind
  .have xk:=o.lt b a;obtain⟨X,xl,xb,F,I,r,_⟩:=a.X.up e.1 (by rw[e.2.1];omega);obtain⟨N,P⟩:=r.C3 e;subst N;subst P;obtain⟨xm,xc,z⟩:=a.X.W.sh.Bw k _ (Cu e.1);obtain⟨xo,xn,Y,xs,Z,xt⟩:=I.E_ H z;have:=m.ag k q p e (by rw[d.BB b a];omega) (by rw[(c.EO b a d (by omega)).Ai];omega) y (by rw[Y,Aiz,Z,<-z.BB,d.BB b a];omega);grind
 .obtain⟨j,d⟩:=Ajh.1 n;have w:=DM d;subst w;obtain⟨k,h⟩:=c.Jn j (Aid.1 d).1;have:=m.QK (f.at k) (Ail (Cu (h.lt b a).2)) F (by rw[h.BB b a];exact x);unfold Gy at this i;simp only[Aie,Akn,Aj9]at i;have xp:=PR (c.Dv h i.2.1) i.2.1;have xq:=PR (c.Dv h i.2.2) i.2.2;grind
end
section
variable{l:C Ab} {t:C AG} {u:C M} {s f:Ah}
theorem Adt(a:Ex l t u s):((DC s.Ae).l:K)<=s.Aq:=by
 obtain⟨d,_⟩:=a.J.Hu;have:=SP (λ(b:K)(c:D×D)=>c.2<1000/\b=((1000*c.1+c.2:D):K)) (a:=DC s.Ae) (d:=d) a.X.W.JN (λb e=>by obtain⟨_⟩:=a.X.W.AV b e;grind) Om
 omega
theorem lL(e:Ex l t u s)(g:Ex l t u f){a d b c:D}(h:RC s f a b)(i:RC s f d b)(k:BW (s.at a) c=0)(j:0<BW (s.at d) c):False:=by have:=RC.C3 e g h i;grind
theorem si(x:Bj l)(d:Ex l t u s)(c:Ex l t u f)(xT:K0 l f)(xH:Bp l f=[])(e:DQ l t s f){b a:D}{q:K}(X:b<s.T.l)(xl:Gb l (s.at b) a=L)(n:(Ev l s ⟨b,a⟩ q).2≠0):False:=by
 have o:=ZU x d.X X xl;obtain⟨F,m⟩:=e.Jn b X;have I:=lK x d c e xH m xl;have x0:=sq d c e m o.zero I;have xZ:=c.X.W.Aq;rw[bZ X Om]at n;have x2:=m.lt d c;have xc:=c.J.Ao F a Om I;have xY:=m.Ao d c a;by_cases z:(AL l s b a).op=8\/(AL l s b a).op=9
 .rw[Af z]at n;unfold H0 at n;by_cases S:(Am l s b a 0).Ai≠5
  .rw[Af S]at n;unfold ED at n;have yd:(Bm s ⟨b,a⟩ q).T.l=s.T.l:=by show(s.T.set _ _).l=_;grind
   by_cases xU:(Bm s ⟨b,a⟩ q).T.l=400
   .obtain⟨r,xb,yf⟩:=(xc.EO (by grind)).2.1 (by rw[(e.Am d c m (o.EO z)).Ai];omega);have:=gG d c e xb.1 λxr Z=>by obtain⟨xJ,xG,xu,yg⟩:=RC.up c Z.symm xb;have E:=RC.C3 d c m xG.symm;subst E;have:=(d.X.W.CX xr xJ a xu).1;have:=o.zero;omega
    have:=c.X.W.sh.AX;omega
   grind
  grind
 rw[Ad z]at n;by_cases Q:(AL l s b a).op=11
 .rw[Af Q]at n;have xm:=λp (x1:p<3)=>o.AT z (by omega) p (by obtain⟨h,i,xt,xF,M⟩:=o.Mi;have:=M.Xt Q;omega)
  have r:BA (Bm s ⟨b,a⟩ q).Ae ⟨2,Am l s b a 0,Am l s b a 1,Am l s b a 2,0⟩=⟨(CD s.Ae (Am l s b a 0) (Am l s b a 1) (Am l s b a 2)).1,Nd (CD s.Ae (Am l s b a 0) (Am l s b a 1) (Am l s b a 2)).2.2,(CD s.Ae (Am l s b a 0) (Am l s b a 1) (Am l s b a 2)).2.1,(CD s.Ae (Am l s b a 0) (Am l s b a 1) (Am l s b a 2)).2.2⟩:=B;have xi:(CD s.Ae (Am l s b a 0) (Am l s b a 1) (Am l s b a 2)).2.2≠0:=λxQ=>by unfold DE at n;grind
  unfold CD at xi;by_cases G:Dp s.Ae (Am l s b a 0) (Am l s b a 1)=Ac;.grind
  rw[Ad G]at xi;by_cases R:(FI s.Ae (Am l s b a 0) (Am l s b a 1)).Ai≠0
  .have G:Dp s.Ae (Am l s b a 0) (Am l s b a 1)=L:=by simpa using G
   obtain⟨w,p,ye,yh,xn,x6,xo,x7,x8,xK,xL,x9⟩:=O1 (Q6 (Nw d.X b a 0)) G
   rw[KE (by omega),xn,xo,Aif,Aif]at R
   obtain⟨xa,Y⟩:=d.J.wr w p R
   have U:Am l s b a 1=Ed p:=OI xL xo
   have xq:=e.Am d c m (xm 0 (by omega))
   have xP:=e.Am d c m (xm 1 (by omega))
   rw[(OI xK xn:Am l s b a 0=DB w)]at xq
   obtain⟨J,xw,y⟩:=xq.WH
   have xV:=Vw d c (e.AT d c) x y
   have x5:=(Vu R).2
   have xd:Wr l t f J p (A (F,a)):=⟨Om,by grind,I,xw,((xP.eq (by omega)).t U:Am l f F a 1=Ed p),(y.lt d c).2,by omega⟩
   cases xa with
   |none=>have E:J=w:=RS.fn d c (.BX (Vu Y).1) y;subst E;have N:Wr l t f J p O:=Y;cases c.J.Lr _ _ _ _ xd N
   |some xa=>
    obtain⟨h,i⟩:=xa;obtain⟨xj,xk,W,xD,xE,_⟩:=Y;obtain⟨xv,v⟩:=e.Jn h xj;have x3:=d.J.AT x d.X xj W;have xp:=e.Am d c v (d:=i) (e:=0) P;rw[xD]at xp;obtain⟨xs,xR,xS⟩:=xp.WH;have E:=RS.fn d c y xS;subst E;have N:Wr l t f xs p (A (xv,i)):=⟨(v.lt d c).2,by rw[v.Ao d c];omega,e.AI _ _ v i W,xR,((e.Am d c v (d:=i) (e:=1) P).eq (by grind)).t xE,(y.lt d c).2,by omega⟩;cases(c.J.Lr _ _ _ _ xd N)
    exact lL d c m v o.zero W
  grind
 rw[Ad Q]at n;by_cases S:(AL l s b a).op=5;.grind
 rw[Ad S]at n;have g:(CV (Bm s ⟨b,a⟩ q) ⟨b,a⟩ (AL l s b a) (Dr l s b a)).2.2≠0:=P;clear n;unfold CV at g;by_cases xy:(AL l s b a).op=4;.grind
 rw[Ad xy]at g;by_cases xg:(AL l s b a).op=6;.grind
 rw[Ad xg]at g;by_cases xz:(AL l s b a).op=7;.grind
 rw[Ad xz]at g;by_cases xe:(AL l s b a).op=10
 .rw[Af xe,Nv,Og P]at g;have r:BA (Bm s ⟨b,a⟩ q).Ae ⟨1,Am l s b a 0,AK,AK,0⟩=⟨(C7 s.Ae (Am l s b a 0)).1,(C7 s.Ae (Am l s b a 0)).2.1,[],(C7 s.Ae (Am l s b a 0)).2.2⟩:=B;rw[r]at g;have xh:(C7 s.Ae (Am l s b a 0)).2.2≠0:=P;have xI:I0 (Am l s b a 0)=L/\s.Ae.l=400:=by
   clear g r;generalize Am l s b a 0=h at*;unfold C7 at xh;unfold I0;by_cases T:h.Ai=5;.grind
   rw[Ad T]at xh;grind
  have x4:(Am l s b a 0).Ai=1:=by have:=xI.1;unfold I0 at this;grind
  have xX:Am l f F a 0=Am l s b a 0:=(e.Am d c m (o.AT z xg 0 (by obtain⟨h,i,xt,xF,M⟩:=o.Mi;have:=M.F_ (by omega);omega))).eq (by omega)
  obtain⟨xM,xN,ya,xO,_⟩:=(xc.alloc (by grind)).1 (by grind);have w:IA l f F a xM:=⟨Om,by grind,I,xN⟩;have:=AaY x d c e xO λxr Z=>by
   cases Z with
   |BX xQ=>omega
   |V xk h i=>obtain⟨U,xC⟩:=c.J.C3 _ _ _ _ _ w i;subst U;subst xC;exact lL d c m xk o.zero h.2.2.1
  have:=(MU.1 c.X.W.E8).1;omega
 rw[Ad xe]at g;by_cases xf:(AL l s b a).op=12
 .rw[Af xf,Nv,Nv,Og P]at g;have r:BA (Bm s ⟨b,a⟩ q).Ae ⟨3,Am l s b a 0,Am l s b a 1,AK,1000*(b:K)+(a:K)⟩=⟨(Ds s.Ae (Am l s b a 0) (Am l s b a 1) (1000*(b:K)+(a:K))).1,(Ds s.Ae (Am l s b a 0) (Am l s b a 1) (1000*(b:K)+(a:K))).2.1,[],(Ds s.Ae (Am l s b a 0) (Am l s b a 1) (1000*(b:K)+(a:K))).2.2⟩:=B;have H:(Ds s.Ae (Am l s b a 0) (Am l s b a 1) (1000*(b:K)+(a:K))).2.2≠0:=P;have yb:=Adt d;have yc:=PJ s.Ae;clear g r;generalize Am l s b a 0=h at*;generalize Am l s b a 1=i at*;unfold Ds at H;by_cases T:h.Ai=5;.grind
  rw[Ad T]at H;by_cases xA:i.Ai=5;.grind
  rw[Ad xA]at H;by_cases xB:h.Ai=3;.grind
  rw[Ad xB]at H;by_cases xW:h.Ai≠4\/i.Ai≠1;.grind
  grind
 rw[Ad xf]at g;by_cases xx:(AL l s b a).op=13;.rw[Af xx,Og P]at g;have r:(BA (Bm s ⟨b,a⟩ q).Ae ⟨4,Cd (Dr l s b a) 0,AK,AK,0⟩).e=0:=B;grind
 grind
theorem mD(g:Bj l)(i:Ex l t u f)(h:K0 l f)(n:Bp l f=[]){j:K}(o:j≠0)(a:To l (λb=>JU l t u b/\DQ l t b f) j):False:=by
 rcases a with⟨b,e,⟨d,c⟩,a⟩|⟨b,p,q,r,e,⟨d,c⟩,k,m,_,a⟩;.exact u6 g ⟨e,d⟩ i h c a
 .exact si g ⟨e,d⟩ i h n c k m (by rw[a];omega)
theorem rd(G:Bj l)(k:Ex l t u s)(q:Ex l t u f)(j:Mo s f):DQ l t s f:=by
 have S:∀h a,a<h->a<s.T.l->RC s f a a:=λh=>by
  induction h with
  |zero=>omega
  |succ h N=>
   intro a J c;by_cases r:a=0;.subst r;exact .DL
   .obtain⟨R,g,H,Q,w,p,M⟩:=k.X.up c (λo=>r (k.X.W.sh.DL a _ (Cu c) o):(s.at a).AN≠-1);have:=w.lt;exact .CX P p (j.CX p) (j.As c)
 have v:∀i,BN s.Ae.l i->RV l t.l s f i i:=λi E=>by
  by_cases d:i.Ai=4
  .obtain⟨I,y⟩:=Ow E d;have x:i=DB (i.n.n:K):=OI d (by omega);rw[x];by_cases o:i.n.n<t.l;.exact .Jj (.BX o)
   .obtain⟨a,g,n⟩:=k.J.CC _ (by omega) y;exact .Jj (.V ((P:∀a,a<s.T.l->RC s f a a) a n.1) n (n.Av j))
  .exact .BG d
 have m:∀{a b},RC s f a b->b=a/\a<s.T.l:=λe=>by have:=(e.lt k q).1;exact⟨RC.fn k q P e,this⟩
 refine⟨P,λa b e d h=> ?_,λa b e g d h=> ?_,λa b e g z=> ?_,λa b e g d F=> ?_⟩;.obtain⟨rfl,c⟩:=m e;rw[(j.Av b c).Ep d h];exact v _ (k.X.W.vp b d)
 .obtain⟨rfl,c⟩:=m e;rw[(j.Av b c).Aw g d h];exact v _ (k.X.W.vo b g d)
 .obtain⟨rfl,c⟩:=m e;exact j.fm b g c z
 .obtain⟨rfl,c⟩:=m e;exact j.FZ b g d c F
end
section
variable{l:C Ab} {t:C AG} {u:C M} {s f:Ah}
theorem h6{a b:M}{g e:D}(i:BN g a)(j:BN e b)(k:a.Ai≠0->RV l t.l s f a b)(h:b.Ai≠0->RV l t.l f s b a):RV l t.l s f a b:=by
 by_cases c:a.Ai=0;.rw[YW i c,YW j (Aih λd=>d ((h d).Ai.s.t c):b.Ai=0)];exact .BG (by decide)
 grind
theorem Ae7(i:Ex l t u s)(j:Ex l t u f)(g:DQ l t s f)(h:DQ l t f s){b c:D}(e:RC s f b c)(a:AH):RV l t.l s f (A9 (s.at b) a) (A9 (f.at c) a):=
 h6 (i.X.W.A9 b a) (j.X.W.A9 c a) (λd=>g.Dv e d) (λd=>h.Dv e.symm d)
theorem ge(d:Ex l t u s)(c a:D):BN s.Ae.l (DD s.Ae c a):=by
 unfold DD D5
 cases g:s.Ae[c]?with
 |none=>exact Hb _
 |some b=>
  show BN _ ((b.I[a]?).g AK)
  cases h:b.I[a]?with
  |none=>exact Hb _
  |some e=>exact(Nb.1 ((MU.1 d.X.W.E8).2.1 b P).2).1 e P
theorem qs(i:Bj l)(h:∀d a,BN t.l (DD t d a))(b:Ex l t u s)(c:Ex l t u f)(k:DQ l t s f)(m:DQ l t f s){d g:D}(j:RS l t.l s f d g)(a:D):RV l t.l s f (DD s.Ae d a) (DD f.Ae g a):=
 h6 (ge b d a) (ge c g a) (λe=>bb b c h (k.AT b c) i j e) (λe=>bb c b h (m.AT c b) i j.symm e)
theorem RL.kT:∀{a b:C M},b.l=a.l->(∀c:D,RV l t.l s f ((a[c]?).g AK) ((b[c]?).g AK))->RL l t.l s f a b
 |[],[],_,_=>.nil
 |g::a,h::b,d,e=>.cons (e 0) (RL.kT (Nat.succ.inj d) λc=>e (c+1))
 |[],h::b,d,_=>by grind
 |g::a,[],d,_=>by grind
theorem gg(a:C AG)(b:D):Jx a (b:K)=D5 a b:=by unfold Jx D5 G_;grind
inductive RO(l:C Ab)(a:D)(s f:Ah):C K->C K->Prop
 |nil:RO l a s f [] []
 |cons {b c:D} {d e:C K}:RS l a s f b c->RO l a s f d e->RO l a s f ((b:K)::d) ((c:K)::e)
theorem RO.AX{a b:C K}(c:RO l t.l s f a b):b.l=a.l:=by
 induction c with
 |nil=>rfl
 |cons _ _ d=>grind
theorem RO.EK{a b:C K}(e:RO l t.l s f a b){c d:D}(i:RS l t.l s f c d):RO l t.l s f (a++[(c:K)]) (b++[(d:K)]):=by
 induction e with
 |nil=>exact .cons i .nil
 |cons h _ g=>exact .cons h g
theorem RO.N{b c:C K}(g:RO l t.l s f b c):∀(a:D),(b[a]? =O/\c[a]? =O)\/∃d e:D,b[a]? =A (d:K)/\c[a]? =A (e:K)/\RS l t.l s f d e:=by
 induction g with
 |nil=>grind
 |cons i _ h=>grind
theorem RO.vc(c:Ex l t u s)(d:Ex l t u f){e g:C K}(k:RO l t.l s f e g){a b:D}(j:RS l t.l s f a b):g.idxOf (b:K)=e.idxOf (a:K):=by
 induction k with
 |nil=>rfl
 | @cons n o r v i _ m=>
  rw[Akw,Akw,m];by_cases h:n=a;.subst h;have:=RS.fn c d i j;grind
  .have q:o≠b:=λp=>by
    subst p
    exact h (RS.C3 c d j i)
   grind
theorem AbS(k:Ex l t u s)(m:Ex l t u f){h i:M}(b:RV l t.l s f h i){a g:C K}(c:RO l t.l s f a g):(Hl i g).1=(Hl h a).1/\RO l t.l s f (Hl h a).2 (Hl i g).2:=by
 unfold Hl
 cases b with
 |BG e=>simp only[Ad e];exact⟨Ais,c⟩
 | @Jj o p b=>
  have e:∀d:D,(DB (d:K)).Ai=4:=λ_=>B;have n:∀d:D,(DB (d:K)).n=d:=λ_=>B;simp only[e,n,Af,(c.vc k m b),c.AX];refine⟨Ais,?_⟩;by_cases j:a.idxOf (o:K)=a.l;.rw[Af j,Af j];exact c.EK b
  grind
theorem lO(g:Ex l t u s)(h:Ex l t u f){c d:C M}(i:RL l t.l s f c d):∀{a b:C K},RO l t.l s f a b->(CH d b).1=(CH c a).1/\RO l t.l s f (CH c a).2 (CH d b).2:=by
 induction i with
 |nil=>intro a b e;exact⟨B,e⟩
 |cons j _ k=>intro a b e;obtain⟨p,m⟩:=AbS g h j e;obtain⟨n,o⟩:=k m;unfold CH;grind
theorem gK(j:Bj l)(p:∀n k,BN t.l (DD t n k))(b:Ex l t u s)(c:Ex l t u f)(i:DQ l t s f)(o:DQ l t f s):∀(e a:D)(d:C (C M)){g h:C K},RO l t.l s f g h->J7 f.Ae e a d h=J7 s.Ae e a d g
 |0,a,d,g,h,m=>rfl
 |e+1,a,d,g,h,m=>by
  unfold J7;rcases m.N a with⟨r,v⟩|⟨n,y,r,v,q⟩;.grind
  .rw[r,v];simp only[];have z:RL l t.l s f (Jx s.Ae (n:K)) (Jx f.Ae (y:K)):=by rw[gg,gg];exact RL.kT (Vw b c (i.AT b c) j q) λk=>qs j p b c i o q k
   obtain⟨w,x⟩:=lO b c z m;rw[w];exact gK j p b c i o e (a+1) _ x
theorem q3(i:Bj l)(h:∀p k,BN t.l (DD t p k))(a:Ex l t u s)(b:Ex l t u f)(e:DQ l t s f)(g:DQ l t f s){c d:C M}(j:RL l t.l s f c d):GN f.Ae d=GN s.Ae c:=by unfold GN;obtain⟨m,n⟩:=lO a b j (a:=[]) (b:=[]) .nil;rw[m,gK i h a b e g 401 0 [] n]
theorem RC.ES(e:Ex l t u s)(g:Ex l t u f){j k:D}(i:RC s f j k):G6 f k=G6 s j:=by
 induction i with
 |DL=>rw[ZI e.J.DL.1,ZI g.J.DL.1]
 | @CX d H b z w i m n x v=>
  have o:∀{a:Ah},Ex l t u a->∀{b d},By a b d w->G6 a b=G6 a d++[⟨(a.at b).Ao,(a.at b).As⟩]:=λ{a} h {b d} c=>by obtain⟨I,F,y,G,q,p,_⟩:=h.X.up c.1 (by rw[c.2.1];omega);obtain⟨r,E⟩:=p.C3 c;subst r;exact ZJ h.X.W.sh c.1 c.2.1 q.lt
  rw[o e m,o g n,v,m.2.2,n.2.2,x]
theorem Zk{b:Ah}{h:Cc}:∀{d:D},h∈Kt l b d↔∃a c:D,a<d/\a<b.T.l/\c<(Ch l (b.at a)).Ay.l/\Ri l (b.at a) c=L/\h=⟨G6 b a,(c:K)⟩
 |0=>⟨λe=>(by cases e),Om⟩
 |d+1=>by
  unfold Kt;rw[AiM,Zk (d:=d)];constructor
  .rintro(⟨a,c,i,g⟩|e)
   .grind
   .split at e;.rename_i m j;have:=DM j;subst this;unfold M_ at e;grind
    grind
  .rintro⟨a,c,i,g,o,p,rfl⟩
   by_cases k:a=d;.subst k;right;rw[Cu g];unfold M_;grind
   grind
theorem Zv{e:Ah}(b:Bn l e):∀a,(Kt l e a).Nodup
 |0=>AjL
 |a+1=>by
  unfold Kt;split
  .rename_i o k;refine Aj8.2 ⟨Zv b a,?_,λc h d j i=> ?_⟩;.refine List.Pairwise.map _ (λc d p=> ?_) (List.Pairwise.filter _ AjQ);intro n;have:(c:K)=d:=Aij Cc.Ao n;omega
   .subst i;obtain⟨m,r,q,g,_⟩:=Zk.1 h;obtain⟨_⟩:=AiR.1 j;have:=ld b (a+1) a m (by omega) (Aid.1 k).1 g P;omega
  .rw[Aiy];exact Zv b a
theorem Afa(j:Ex l t u s)(k:Ex l t u f)(h:DQ l t s f)(i:DQ l t f s){b d:D}(e:RC s f b d){c:D}(a:Ri l (s.at b) c=L):Ri l (f.at d) c=L:=by
 unfold Ri at a⊢;rw[e.BB j k];split at a;.rename_i n m;simp only[Aie,Ain]at a⊢;refine⟨a.1,h.AI b d e c a.2.1,Aih λg=> ?_⟩;exact g ((i.Aw d b e.symm c 0 g).Ai.s.t (a.2.2:(Bg (s.at b) c 0).Ai=0))
 omega
theorem Afb(a:Ex l t u s)(b:Ex l t u f)(d:DQ l t s f)(g:DQ l t f s):L7 l f=L7 l s:=by
 have r:∀{s f:Ah},Ex l t u s->Ex l t u f->DQ l t s f->DQ l t f s->∀e,e∈Kt l s s.T.l->e∈Kt l f f.T.l:=λ{s f} a b d g e i=>by obtain⟨m,o,p,j,q,k,rfl⟩:=Zk.1 i;obtain⟨n,c⟩:=d.Jn m j;have h:=(c.lt a b).2;exact Zk.2 ⟨n,o,h,h,by rw[c.BB a b];omega,Afa a b d g c k,by rw[c.ES a b]⟩
 unfold L7;exact mr (ez _) (ez _) ((Xg _).trans (((List.perm_ext_iff_of_nodup (Zv b.X _) (Zv a.X _)).2 P:(Kt l f f.T.l).Perm (Kt l s s.T.l)).trans (Xg _).symm))
theorem AdZ(e:Bj l)(g:∀m k,BN t.l (DD t m k))(a:Ex l t u s)(b:Ex l t u f)(c:DQ l t s f)(d:DQ l t f s):Ec l f={Ec l s with W4:=f.round}:=by
 have n:RL l t.l s f (HA l s) (HA l f):=by unfold HA;rw[RC.BB a b .DL];exact RL.of λo _=>Ae7 a b c d .DL o
 have p:=gF a b c;have q:=gF b a d;have w:=kr e a b c;have x:=kr e b a d;have r:=YA a b c;have v:=YA b a d;have i:f.Aq=s.Aq:=by omega
 have h:f.T.l=s.T.l:=by omega
 have j:f.Ae.l=s.Ae.l:=by omega
 unfold Ec;rw[(q3 e g a b c d n),Afb a b c d,i,h,j]
end
def qw{a:C AG}(e:Gg a)(d b:D):BN a.l (DD a d b):=by
 unfold DD D5
 cases g:a[d]?with
 |none=>exact Hb _
 |some c=>
  show BN _ ((c.I[b]?).g AK)
  cases h:c.I[b]?with
  |none=>exact Hb _
  |some f=>exact(Nb.1 ((MU.1 e).2.1 c P).2).1 f P
variable{a:AS}
def mw{e:C Ab}(u:Bj e)(n:I2 (Il e) a=0)(q:(B1 a.l a.BO).2.2=0):JU e (B1 a.l a.BO).1 (Di::(B1 a.l a.BO).2.1) (FY e a)/\∀g h,BN (B1 a.l a.BO).1.l (DD (B1 a.l a.BO).1 g h):=by
 obtain⟨_⟩:=TF n;obtain⟨t,_⟩:=a4 (a:=a) (by omega) q;obtain⟨z,E,v,m,I,r,_⟩:=ai u n q;have p:∀b,1<=b->(FY e a).at b=Qi:=λb r=>Nk r;have R:∀i j d,¬By (FY e a) i j d:=λi j d l=>by
  have c:i<1:=l.1;have w:i=0:=by omega
  subst w;have c:(-1:K)=(j:K):=l.2.1;omega
 have G:∀b d,BW ((FY e a).at b) d=0:=λb d=>by
  by_cases o:1<=b;.rw[p b o];rfl
  .have:b=0:=by omega
   subst this;exact SV _ _ _
 have T:∀b,b<(FY e a).T.l->((FY e a).at b).next= -1:=λb c=>by
  have c:b<1:=c;have:b=0:=by omega
  subst this;rfl
 have S:∀(g:D)(k:AG)(f:BU),(FY e a).Ae[g]? =A k->f∈k.AV->False:=λg k f s y=>by
  have:f.Cq∈DC (B1 a.l a.BO).1:=by unfold DC;exact List.mem_flatMap.2 ⟨k,Ail s,P⟩
  grind
 refine⟨{
  F_:=by show 0<1;omega
  DL:=⟨B,B⟩
  L4:=λh=>B
  Ep:=λi j d l=>P
  L5:=λF i n J=>by grind
  BS:=λj d h c=>by rw[(λb d h=>by
  by_cases o:1<=b
  .rw[p b o];rfl
  .have:b=0:=by omega
   subst this;exact Tv _ _ _ _ _:∀b d h,BT ((FY e a).at b) d h=E3)]at c;cases c
  Ao:=λb d _ c=>by grind
  Ae:=Fl.refl _
  CC:=λg v m=>by have m:g<(B1 a.l a.BO).1.l:=m;omega
  C3:=λb d M N g c=>by have:=c.2.2.1;grind
  wr:=λg h c=>⟨O,c⟩
  Lr:=λg h f U c H=>by
   have Q:∀f,Wr e (B1 a.l a.BO).1 (FY e a) g h f->f=O:=λf c=>by
    cases f with
    |none=>rfl
    |some f=>obtain⟨b,d⟩:=f;have:=c.2.2.1;grind
   grind
  My:=λb d _ _ c=>by grind
  GA:=λg k f s y=>P
  Hu:=⟨[],AjL,B,P⟩},qw t⟩
def kW{b:C Ab}(k:DR b=0->Bj b){l s:D}(r:400<=l){d:Ah×K}(c:HH b l s a=A d)(j:d.2=0):Bj b/\GI b d.1/\K0 b d.1/\JU b (B1 a.l a.BO).1 (Di::(B1 a.l a.BO).2.1) d.1/\d.1.round=0/\d.1.Aq=0/\∀t g,BN (B1 a.l a.BO).1.l (DD (B1 a.l a.BO).1 t g):=by
 obtain⟨q,p⟩:=NN k c j;have e:=k q;unfold HH at c;rw[Ad Om]at c;by_cases i:I2 (Il b) a=0
 .rw[Ad Om]at c;by_cases f:(B1 a.l a.BO).2.2=0;.rw[Ad (λg=>g f)]at c;obtain⟨o,n⟩:=mw e i f;have h:=Xk e i f;have m:=T2 c;exact⟨e,p,cE e r h c j,(YV (V3 e _ _ (FY b a)).toTl h ⟨o,Mo.refl _⟩ c).q.1,m.2.1,m.2.2,n⟩
  grind
 grind
def Ab2{c:C Ab}(V:DR c=0->Bj c){m q J M:D}(p:400<=m){N:C K}{d:Ah×K}{e:Ah×C A8×K}(j:F7 c m q J a=A d)(k:L2 c m q M a N=A e):(d.2=0↔e.2.2=0)/\(d.2=0->Ec c e.1={Ec c d.1 with W4:=d.1.Aq}/\(e.2.1.l:K)=d.1.Aq):=by
 unfold F7 at j
 unfold L2 at k
 cases I:HH c m q a with
 |none=>grind
 |some f=>
  rw[I]at j k;have j:(if f.2≠0 then A f else Iy c m q J f.1)=A d:=j;have k:(if f.2≠0 then A (f.1,[],f.2)else IQ c m q N M f.1 [])=A e:=k;by_cases S:f.2=0
  .rw[Ad Om]at j k;obtain⟨i,o,r,n,xa,xb,s⟩:=kW V p I S;have X:=λ(U:Ah)(b:ar c (λG=>JU c (B1 a.l a.BO).1 (Di::(B1 a.l a.BO).2.1) G/\Mo f.1 G) U)=>rd i ⟨o.X,n⟩ ⟨b.K.X,b.q.1⟩ b.q.2;have v:=Z1 (V3 i _ _ f.1) p o ⟨n,Mo.refl _⟩ r j;have w:=dT (V3 i _ _ f.1) p o ⟨n,Mo.refl _⟩ r k;have Q:d.2=0->e.2.2=0/\DQ c (B1 a.l a.BO).1 e.1 d.1:=λl=>by have b:=v.1 l;have g:Ex c (B1 a.l a.BO).1 (Di::(B1 a.l a.BO).2.1) d.1:=⟨b.K.X,b.q.1⟩;have t:=dT (js i s g b.Xb b.W0) p o ⟨n,P⟩ r k;have h:e.2.2=0:=Aih λh=>mD i g b.Xb b.W0 h P;exact⟨h,(t.1 h).1.q.2⟩
   have R:e.2.2=0->d.2=0/\DQ c (B1 a.l a.BO).1 d.1 e.1:=λl=>by have b:=(w.1 l).1;have g:Ex c (B1 a.l a.BO).1 (Di::(B1 a.l a.BO).2.1) e.1:=⟨b.K.X,b.q.1⟩;have t:=Z1 (js i s g b.Xb b.W0) p o ⟨n,P⟩ r j;have h:d.2=0:=Aih λh=>mD i g b.Xb b.W0 h P;exact⟨h,(t.1 h).q.2⟩
   refine⟨⟨Om,Om⟩,λl=> ?_⟩;obtain⟨H,y⟩:=Q l;obtain⟨_,x⟩:=R H;obtain⟨E,W,F⟩:=w.1 H;have z:=v.1 l;have u:Ex c (B1 a.l a.BO).1 (Di::(B1 a.l a.BO).2.1) d.1:=⟨z.K.X,z.q.1⟩;have g:Ex c (B1 a.l a.BO).1 (Di::(B1 a.l a.BO).2.1) e.1:=⟨E.K.X,E.q.1⟩;have Y:=YA u g x;have Z:=YA g u y;have F:(e.2.1.l:K)-(0:D)=e.1.Aq-f.1.Aq:=F;have T:e.1.round=d.1.Aq:=by omega
   exact⟨by rw[AdZ i s u g x y,T],by omega⟩
  grind
