/- Part of the proof. -/
import Derived.Test.YtbmnfifnenajjaaGreatNbl
set_option linter.all false
noncomputable section
open Option renaming some->A,bind->Option.b
open _root_ renaming rfl->B,List->C,Nat->D,Int->K,if_neg->Ad,if_pos->Af,Bool->Ah,decide_eq_false->A2,absurd->BF
open Bool renaming true->L,false->Aa
open Decidable renaming decide->Ao
open List renaming replicate->BG,length->List.l,map->List.m,take->List.t,flatMap->List.f
open Go.IntKind renaming i64->Go.IntKind.n
open Array renaming toList->Array.l
open Eq renaming trans->Eq.t,symm->Eq.s
open Or renaming inl->Or.i,inr->Or.j
open Int renaming toNat->Int.n
namespace Go.Proofs.YtbmnfifnenajjaaGreat
open Go.Fg
theorem Xg{a:AK}{b:D}{c:N}(h:c.Ak=0\/(GQ a b).Ak≠0):FG a b c=(a,Aa):=Af h
theorem gu{a:AK}{b:D}{c:N}(h:¬(c.Ak=0\/(GQ a b).Ak≠0)):FG a b c=({a with An:=a.An.set b c},L):=Ad h
theorem LY{e:Ai}{a:D}(b:a<e.Ac.l):e.AJ a (e.at a)=e:=NC (Di b)
section
variable{t:EC} {h:G} {e:Ai} {w:C (C (C K))} {v:K} {u:T->Prop}
theorem aj(g:Bj t h e w v u){a b:D}(i:a<e.Ac.l)(P:b<(e.at a).An.l)(d:N):∃m,W9 (pos 77) [.p t.x 0,.n a,.n b,.S (N.c d)] h=A (.b (FG (e.at a) b d).2,m)/\Bj t m (e.AJ a (FG (e.at a) b d).1) w v u/\Bo u h m:=by
 let⟨xj,n,xd,xc,f,s,xh,xi⟩:=box h (.I 2 (N.c d))
 have q:=g.ext f;have r:=q;let⟨R,z,j,M⟩:=q
 let⟨p,x⟩:=Bb P
 have xm:=j.cv;let⟨k,xe,S,T,V,W,X,Y,Z⟩:=j.B0 i
 let⟨l,J,xf,Q,xl,xo,E,y⟩:=j.Yi i x d
 have xb:GQ (e.at a) b=p:=by unfold GQ;rw[x];rfl
 have xg:=s;have xn:=s;have xa:Bl 0 [.p l (b*2)]=A (.p l (b*2+0)):=by rw[EG]
 have xk:AM n [.p l (b*2+0)]=A (.i .u8 p.Ak):=Q;by_cases F:d.Ak=0;.rw[Xg (.i F),LY i];refine⟨n,AZ B B ?_,r,λo c=>f.M (g.C4 c)⟩;rw[Xy.1];simp only[QY,H (Eg t.x),H (Ha k a 4), *]
 .by_cases U:p.Ak=0
  .rw[gu (by grind)];let⟨G,I⟩:=y.Fp (by grind) M
   refine⟨J,AZ B B ?_,⟨R,z,E,G⟩,λo c=>(I o c).t (f.M (g.C4 c))⟩;rw[Xy.1];simp only[QY,H (Eg t.x),H (Ha k a 4),Xy.2, *]
  .rw[Xg (.j (by grind)),LY i];refine⟨n,AZ B B ?_,r,λo c=>f.M (g.C4 c)⟩;rw[Xy.1];simp only[QY,H (Eg t.x),H (Ha k a 4), *]
end
def NN(e:Ai)(f d:D)(b:BA)(c:K):Prop:=(b=EQ/\c=0)\/(b.is=L/\∃a,CW e a f d/\(e.at a).Az=b.Az/\c=if b.next=L then-(a:K)-1 else(a:K)+1)
structure CJ(e:Ai)(t:C (C (C K))):Prop where
 A7:t.l=e.Ac.l
 Ga:∀(a:D) b,t[a]? =A b->b.m List.length=(e.at a).A4.m List.length
 B0:∀(a c d:D) b f g,t[a]? =A b->b[c]? =A f->f[d]? =A g->NN e a c (Ek (e.at a) c d) g
theorem t_{f g:Type}{x:C (C f)}{d:C (C g)}(h:d.m List.length=x.m List.length){a:D}{b:C f}(i:x[a]? =A b):∃c,d[a]? =A c/\b.l=c.l:=by
 have:(x.m List.length)[a]? =A b.l:=by grind
 grind
theorem CJ.Cc{e:Ai}{t:C (C (C K))}(j:CJ e t){a d f:D}(r:a<e.Ac.l)(h:G6 (e.at a).A4 d f):∃c b g,t[a]? =A c/\c[d]? =A b/\b[f]? =A g/\NN e a d (Ek (e.at a) d f) g:=by
 let⟨c,k⟩:=Bb (b:=t) (a:=a) (by rw[j.A7];grind)
 let⟨s,o,p⟩:=h
 let⟨b,m,q⟩:=t_ (j.Ga a c k) o
 let⟨g,n⟩:=Bb (b:=b) (a:=f) (by omega)
 exact⟨c,b,g,k,m,n,j.B0 a d f c b g k m n⟩
def XQ(b:Ah)(a:D):K:=if b=L then-(a:K)-1 else(a:K)+1
theorem NN.Zw{l:C Ab}{e:Ai}(q:WF l e){a g d:D}(p:CW e a g d){c:BA}{i:K}(s:NN e g d c i)(f:Ah):i=XQ f a↔c=⟨(e.at a).Az,f,L⟩:=by
 rcases s with⟨rfl,rfl⟩|⟨y,b,z,m,n⟩
 .constructor;.intro h;unfold XQ at h;omega
  .intro h;cases(AdW BA.is h)
 .let⟨o,x,r⟩:=c
  have m:(e.at b).Az=o:=m;have n:i=if x=L then-(b:K)-1 else b+1:=n;subst(y:r=L);unfold XQ;constructor;.grind
  .intro h;have j:=AdW BA.Az h;have k:=AdW BA.next h;have j:o=(e.at a).Az:=j;have k:x=f:=k;have:b=a:=q.KN a b g d p z (by omega);grind
theorem NN.kK{e:Ai}{f d:D}{a:BA}{b:K}(c:NN e f d a b):b=0↔¬a.is=L:=by
 rcases c with⟨rfl,rfl⟩|⟨i,g,j,k,m⟩;.exact⟨λ_ h=>(by cases h),Om⟩
 grind
theorem NN.Hf{e d:Ai}{c b:D}{f:BA}{g:K}(i:NN e c b f g)(o:∀a,CW e a c b->CW d a c b/\(d.at a).Az=(e.at a).Az):NN d c b f g:=by
 rcases i with h|⟨j,a,m,n,k⟩;.exact .i h
 .exact .j ⟨j,a,P,by grind,k⟩
theorem CJ.AJ{e:Ai}{t:C (C (C K))}(g:CJ e t){b:D}{c:AK}(m:b<e.Ac.l)(j:DQ (e.at b) c)(G:c.A4=(e.at b).A4):CJ (e.AJ b c) t:=by
 have H:∀{d i f},CW e d i f->CW _ d i f/\((e.AJ b c).at d).Az=(e.at d).Az:=λ{d i f} o=>by
  unfold CW at o⊢;rw[Ej,E4 m];split;.rename_i z;subst z;rw[j.AP,j.Ax,j.Az];grind
  omega
 have k:∀a,((e.AJ b c).at a).A4=(e.at a).A4:=λa=>by rw[E4 m];grind
 exact⟨by rw[Ej];exact g.A7,λa n y=>by rw[k];exact g.Ga a _ y,λp f a n E F q r s=>by unfold Ek;rw[k];exact(g.B0 p f a n E F q r s).Hf P⟩
theorem CJ.M8{e:Ai}{t:C (C (C K))}(k:CJ e t){g a d f:D}(F:a<e.Ac.l){I:N}{o:Ah}{q:C (C K)}{p:C K}{V:K}(n:t[a]? =A q)(z:q[d]? =A p)(M:p[f]? =A V)(W:CW e g a d)(h:G6 (e.at a).A4 d f):CJ (e.AJ a {e.at a with A4:=CP (e.at a).A4 d f ⟨(e.at g).Az,o,L⟩,AG:=CP (e.at a).AG d f I}) (t.set a (q.set d (p.set f (XQ o g)))):=by
 have Z:=(AdN.1 n).1;have Y:=(AdN.1 M).1;have R:DQ (e.at a) {e.at a with A4:=CP (e.at a).A4 d f ⟨(e.at g).Az,o,L⟩,AG:=CP (e.at a).AG d f I}:=⟨B,B,B,B,B,TJ _ _ _ _,B,TJ _ _ _ _⟩;generalize X:({e.at a with A4:=CP (e.at a).A4 d f ⟨(e.at g).Az,o,L⟩,AG:=CP (e.at a).AG d f I})=m at R;have E:m.A4=CP (e.at a).A4 d f ⟨(e.at g).Az,o,L⟩:=by grind
 have xa:∀{r b c},CW e r b c->CW (e.AJ a m) r b c/\((e.AJ a m).at r).Az=(e.at r).Az:=λ{r b c} S=>by unfold CW at S⊢;rw[Ej,E4 F];grind
 refine⟨by rw[Aed,Ej];exact k.A7,λb H j=> ?_,λb c i H Q J j y s=> ?_⟩
 .rw[E4 F];rcases Ik n j with⟨rfl,rfl⟩|⟨G,j⟩
  .rw[Af B,R.A4,<-k.Ga b q n];refine AeP λU=> ?_;rw[Aeo,Aeo];by_cases T:U=d;.subst T;rw[Aex (AdN.1 z).1,z];show A (p.set f _).l=A p.l;rw[Aed]
   .grind
  .rw[Ad G];exact k.Ga b H j
 .rw[E4 F];rcases Ik n j with⟨rfl,rfl⟩|⟨G,j⟩
  .rw[Af B];rcases Ik z y with⟨rfl,rfl⟩|⟨xb,y⟩
   .rcases Ik M s with⟨rfl,rfl⟩|⟨xc,s⟩
    .right;have:Ek m c i=⟨(e.at g).Az,o,L⟩:=by rw[V4,E];exact T_ h
     rw[this];exact⟨B,g,P,P,B⟩
    .have:Ek m c i=Ek (e.at b) c i:=by
      rw[V4,V4,E];exact Kn Om
     rw[this]
     exact(k.B0 b c i q p J n z s).Hf P
   .have:Ek m c i=Ek (e.at b) c i:=by
     rw[V4,V4,E];exact Kn Om
    rw[this]
    exact(k.B0 b c i q Q J n y s).Hf P
  .rw[Ad G];exact(k.B0 b c i H Q J j y s).Hf P
section
variable{w:T->Bm} {h:G} {l:C Ab} {x:T} {e:Ai} {t:C (C (C K))} {v:K} {u:Bm->F}
theorem BZ.gs(i:BZ w h l x e t v u){c:D}(n:c<e.Ac.l)(k:C (C BA)):BZ w h l x (e.AJ c {e.at c with A4:=k}) t v u where
 M:=i.M
 lv:=i.lv
 B3:=i.B3
 tg:=i.tg
 Db:=λp=>by
  have f:∀(a:D){r:Type}(j:AK->r),(j _=j _)->j ((e.AJ c {e.at c with A4:=k}).at a)=j (e.at a):=λa r j h=>by
   rw[E4 n];split;.rename_i m;subst m;exact h
   .rfl
  have d:=i.Db p
  cases p with
  |Ac=>show Aw h _ _ 7 _;rw[(funext λa=>by unfold DM;rw[f a (λb=>b.Bc) B,f a (λb=>b.AP) B,f a (λb=>b.Ax) B,f a (λb=>b.Az) B]:DM u _=DM u e),Ej];exact d
  |An a=>intro g;rw[Ej]at g;rw[f a (λb=>b.An) B];exact d g
  |AG a=>intro g;rw[Ej]at g;rw[f a (λb=>b.AG) B];exact d g
  |AD a z=>intro H o;rw[f a (λb=>b.AG) B]at o;exact d H o
  |AS a=>intro g;rw[Ej]at g;rw[f a (λb=>b.AS) B];exact d g
  |Bn=>exact d
  |A4 a=>exact d
  |B1 a z=>exact d
  |Am=>
   have y:(e.AJ c {e.at c with A4:=k}).Ac.f GO=e.Ac.f GO:=by
    have:(e.AJ c {e.at c with A4:=k}).Ac.m GO=e.Ac.m GO:=by
     refine AeP λq=> ?_;rw[Aeo,Aeo];show((e.Ac.set c _)[q]?).map GO=_;by_cases m:q=c;.subst m;rw[Aex n,Di n];rfl
     grind
    grind
   show Aw h _ _ 1 (e.AJ c {e.at c with A4:=k}).Ac;rcases(d:Aw h _ _ 1 _)with⟨E,F⟩|⟨s,m,E,F,J,G⟩;.grind
   .exact .j ⟨s,m,by rw[Ej];grind,by rw[Ej];grind,by rw[Ej,y];omega,G⟩
  |Ex=>trivial
  |C5=>trivial
  |BC I=>trivial
end
theorem Ru{g:Type}{h:G}{a:F}{b:g->C _}{f:D}{c:C _}(d:Aw h a b f c):Fl a=L:=by rcases d with⟨rfl,_⟩|⟨i,j,rfl,_⟩<;>rfl
theorem Si{k:T->Bm}{h:G}{j:C Ab}{l:T}{e:Ai}{u:C (C (C K))}{y:K}{d:Bm->F}(b:BZ k h j l e u y d){a:D}(c:a<e.Ac.l):BU (DM d e a)=L:=by have f:=Ru (b.Db (.An a) c);have g:=Ru (b.Db (.AG a) c);have i:=Ru (b.Db (.AS a) c);rw[DJ];show List.all [_,_,_,_,_,_,_] Fl=L;simp only[Aer,f,g,i];rfl
theorem BZ.Sh{k:T->Bm}{h:G}{j:C Ab}{l:T}{e:Ai}{u:C (C (C K))}{y:K}{a:Bm->F}(i:BZ k h j l e u y a){b:D}(g:b<e.Ac.l):∃c,AR 7 [a .Ac,.n b]=A (.p c (b*7))/\h.AL c (b*7) 7=A (DM a e b):=by
 let⟨c,d⟩:=CD (f:=DM a e) (w:=7) (λ_=>B) (i.Db .Ac) (F9 g)
 exact⟨c,d.ia,d.AL (f:=DM a e) (w:=7) (λ_=>B) (F9 g)⟩
theorem du{a:AK}{c d:D}{f:N}{b:BA}(h:Ek a c d=b):CZ a c d f b=(a,Aa,0):=Af h
theorem ds{a:AK}{b c:D}{g:N}{d:BA}(h:Ek a b c≠d)(f:(Ek a b c).is=L):CZ a b c g d=(a,Aa,6):=by unfold CZ;rw[Ad h,Af f]
theorem dt{a:AK}{b c:D}{f:N}{d:BA}(h:Ek a b c≠d)(g:¬(Ek a b c).is=L):CZ a b c f d=({a with A4:=CP a.A4 b c d,AG:=CP a.AG b c f},L,0):=by unfold CZ;rw[Ad h,Ad g]
section
variable{t:EC} {h:G} {e:Ai} {u:C (C (C K))} {y:K} {v:T->Prop}
theorem pj(T:Bj t h e u y v)(x:CJ e u)(Y:BY t.l e){f c g i:D}(k:CW e f c g)(d:c<e.Ac.l)(xF:G6 (e.at c).AG g i)(xi:G6 (e.at c).A4 g i)(j:N):(j.Ak=0->∃l,W9 (pos 173) [.p t.x 0,.n f,.n i,.S (N.c j)] h=A (.b Aa,l)/\Bj t l e u y v/\Bo v h l)/\(j.Ak≠0->∃l xg,W9 (pos 173) [.p t.x 0,.n f,.n i,.S (N.c j)] h=A (.b (CZ (e.at c) g i j ⟨(e.at f).Az,Aa,L⟩).2.1,l)/\Bj t l (e.AJ c (CZ (e.at c) g i j ⟨(e.at f).Az,Aa,L⟩).1) xg (if(CZ (e.at c) g i j ⟨(e.at f).Az,Aa,L⟩).2.2≠0 then 6 else y) v/\CJ (e.AJ c (CZ (e.at c) g i j ⟨(e.at f).Az,Aa,L⟩).1) xg/\Bo v h l):=by
 have xk:=k.1;have x5:=Y.W.sh.A7;let⟨xo,o,x6,x4,Q,xh,xl,yh⟩:=box h (.I 2 (N.c j))
 have I:∀c,v c->Lv h c:=λc d=>T.C4 d;have xu:=T.V Q;let⟨xO,M,z,xG⟩:=xu
 let⟨xP,ya,yr⟩:=z.Sh xk
 have ys:=z.cv;let⟨m,p,xK,xI,w,G,yf,yi⟩:=box o (.I 7 (DM M e f))
 let⟨yD,yw⟩:=EL o (b:=7) [.n 0,.n 0,.n 0,.n 0,.sn,.sn,.sn] (c:=DM M e f) xK xI B (Si z xk)
 have J:=Bj.V ⟨xO,M,z,xG⟩ w;have ye:=(w.M xl).t xh;have s:=Q.AI w;have x3:=F2 (a:=f) (b:=1) (by omega) (by omega);refine⟨λxC=>⟨p,AZ B B ?_,J.sub λc d=>.i (.i d),λc d=>s.M (I c d)⟩,λxC=> ?_⟩;.rw[Nl.1];simp only[QY,H (Eg t.x), *]
 .have xv:=J;let⟨xp,X,P,xj⟩:=J
  let⟨yt,yn,xq,xc,xd,xe,xf⟩:=x.Cc d xi
  let⟨yg,xn,xM⟩:=xF
  let⟨yA,xN⟩:=Bb xM
  have xr:ES (ES v h o) o p xo:=by grind
  have R:ES (ES v h o) o p m:=by grind
  have yB:=P.M;have yj:p.Ap m 1=A (.n c):=by rw[Ay G];show A (F.n (e.at f).AP)=_;rw[k.2.1]
  have yl:p.Ap m 2=A (.n g):=by rw[Ay G];show A (F.n (e.at f).Ax)=_;rw[k.2.2]
  let⟨xQ,xR,xU,U,x7,yo,x8,yp,x9,yq,yx,E,xw⟩:=P.jN xc xd xe (f+1)
  have q:=xw.Fp (by grind) xj;have xb:=xf.Zw Y.W k Aa;have xE:=xf.kK;by_cases Z:xq=f+1;.rw[du (xb.1 Z),LY d,Ad (λr=>r B)];refine⟨p,u,AZ B B ?_,xv.sub λc d=>.i (.i d),x,λc d=>s.M (I c d)⟩;rw[Nl.1];simp only[QY,H (Eg t.x),Nl.2.1, *]
  .have xm:=λr=>Z (xb.2 r);by_cases xa:xq=0
   .rw[dt xm (xE.1 xa),Ad (λr=>r B)];have xH:=q.1;have xV:¬(0=(f:K)+1):=by omega
    have yC:=E.cv;have yk:U.Ap m 1=A (.n (c:K)):=by rw[Ay ((q.2 m R).t G)];show A (F.n (e.at f).AP)=_;rw[k.2.1]
    have ym:U.Ap m 2=A (.n (g:K)):=by rw[Ay ((q.2 m R).t G)];show A (F.n (e.at f).Ax)=_;rw[k.2.2]
    have yv:=BB ((q.2 xo xr).t ((w.M xl).t xh));let⟨xB,yc,xW,xX,xY,xZ,x0,x1,x2⟩:=E.B0 d
    let⟨xT,yd,yu⟩:=E.Ga d xn
    let⟨xS,xs,yb,_,_,yy,xz,xx⟩:=E.PP d xn xN j
    have V:=xx.Fp (by grind) xH;have xJ:c<(e.AD c g i j).Ac.l:=by unfold Ai.AD;rw[Ej];grind
    have S:=xz.gs xJ (CP (e.at c).A4 g i ⟨(e.at f).Az,Aa,L⟩);have xD:(e.AD c g i j).AJ c {(e.AD c g i j).at c with A4:=CP (e.at c).A4 g i ⟨(e.at f).Az,Aa,L⟩}=e.AJ c {e.at c with A4:=CP (e.at c).A4 g i ⟨(e.at f).Az,Aa,L⟩,AG:=CP (e.at c).AG g i j}:=by unfold Ai.AD;rw[LX,HE d];rfl
    rw[xD]at S;refine⟨xs,_,AZ B B ?_,⟨xp,X,S,λc d=>V.1 c (.i (.i d))⟩,x.M8 d xc xd xe k xi,λc d=>(V.2 c (.i (.i d))).t ((q.2 c (.i (.i d))).t (s.M (I c d)))⟩;rw[Nl.1];simp only[QY,H (Eg t.x),Nl.2.1,Nl.2.2.1,Nl.2.2.2,H (Ha xB c 5), *]
   .have xL:(Ek (e.at c) g i).is=L:=by grind
    rw[ds xm xL,LY d,Af (by grind)];let⟨xt,yz,xA,xy⟩:=P.RG 6
    have W:=xy.Fp (by grind) xj;refine⟨xt,u,AZ B B ?_,⟨xp,X,xA,λc d=>W.1 c (.i (.i d))⟩,x,λc d=>(W.2 c (.i (.i d))).t (s.M (I c d))⟩;rw[Nl.1];simp only[QY,H (Eg t.x),Nl.2.1,Nl.2.2.1,xa, *]
end
section
variable{t:EC} {h:G} {e:Ai} {v:C (C (C K))} {w:K} {u:T->Prop}
theorem pk(S:Bj t h e v w u)(q:CJ e v)(U:BY t.l e){d c f g:D}(k:CW e d c f)(i:c<e.Ac.l)(xv:G6 (e.at c).AG f g)(xc:G6 (e.at c).A4 f g)(j:N):∃I xb,W9 (pos 174) [.p t.x 0,.n d,.n g,.S (N.c j)] h=A (.b (CZ (e.at c) f g j ⟨(e.at d).Az,L,L⟩).2.1,I)/\Bj t I (e.AJ c (CZ (e.at c) f g j ⟨(e.at d).Az,L,L⟩).1) xb (if(CZ (e.at c) f g j ⟨(e.at d).Az,L,L⟩).2.2≠0 then 6 else w) u/\CJ (e.AJ c (CZ (e.at c) f g j ⟨(e.at d).Az,L,L⟩).1) xb/\Bo u h I:=by
 have xe:=k.1;have x1:=U.W.sh.A7;let⟨xE,o,x2,x0,M,xZ,ya,yd⟩:=box h (.I 2 (N.c j))
 have xz:∀c,u c->Lv h c:=λc i=>S.C4 i;have xm:=S.V M;let⟨xF,z,r,xw⟩:=xm
 let⟨xI,x6,yn⟩:=r.Sh xe
 have yo:=r.cv;let⟨l,m,xB,xy,Q,x,yb,ye⟩:=box o (.I 7 (DM z e d))
 let⟨yz,ys⟩:=EL o (b:=7) [.n 0,.n 0,.n 0,.n 0,.sn,.sn,.sn] (c:=DM z e d) xB xy B (Si r xe)
 have T:Bj t m e v w (ES (ES u h o) o m):=Bj.V ⟨xF,z,r,xw⟩ Q;have xj:=M.AI Q;have xX:=bq (a:=d) (by unfold Dk;omega);have xW:=FA (a:= -d) (b:=1) (by omega) (by omega);let⟨xh,E,G,xd⟩:=T
 let⟨yp,yj,xi,X,Y,Z,xa⟩:=q.Cc i xc
 let⟨yc,xg,xC⟩:=xv
 let⟨yw,xD⟩:=Bb xC
 have yx:=G.M;have yf:m.Ap l 1=A (.n c):=by rw[Ay x];show A (F.n (e.at d).AP)=_;rw[k.2.1]
 have yh:m.Ap l 2=A (.n f):=by rw[Ay x];show A (F.n (e.at d).Ax)=_;rw[k.2.2]
 let⟨xJ,xK,xN,p,x3,yk,x4,yl,x5,ym,yt,s,xn⟩:=G.jN X Y Z (-d-1)
 have y:=xn.Fp (by grind) xd;have W:=xa.Zw U.W k L;have xY:=xa.kK;by_cases V:xi= -d-1;.rw[du (W.1 V),LY i,Ad P];refine⟨m,v,AZ B B ?_,T.sub P,q,λc i=>xj.M (xz c i)⟩;rw[SV.1];simp only[QY,H (Eg t.x), *]
 .have xf:Ek (e.at c) f g≠⟨(e.at d).Az,L,L⟩:=λJ=>V (W.2 J);by_cases xt:xi=0
  .rw[dt xf P,Ad (λJ=>J B)];have xx:=y.1;have xO:¬(0= -(d:K)-1):=by omega
   have yy:p.Ap t.x 1=A (E .Ac):=s.cv;have yg:p.Ap l 1=A (.n c):=by rw[Ay ((y.2 l P).t x)];show A (F.n (e.at d).AP)=_;rw[k.2.1]
   have yi:p.Ap l 2=A (.n (f:K)):=by rw[Ay ((y.2 l P).t x)];show A (F.n (e.at d).Ax)=_;rw[k.2.2]
   have yr:p.AL xE 0 2=A (N.c j):=BB P;let⟨xs,x8,xP,xQ,xR,xS,xT,xU,xV⟩:=s.B0 i
   let⟨xM,x9,yq⟩:=s.Ga i xg
   let⟨xL,xk,x7,_,_,yu,xq,xo⟩:=s.PP i xg xD j
   have xG:=xo.Fp (by grind) xx;have xA:c<(e.AD c f g j).Ac.l:=by unfold Ai.AD;rw[Ej];grind
   have R:=xq.gs xA (CP (e.at c).A4 f g ⟨(e.at d).Az,L,L⟩);have xu:(e.AD c f g j).AJ c {(e.AD c f g j).at c with A4:=CP (e.at c).A4 f g ⟨(e.at d).Az,L,L⟩}=e.AJ c {e.at c with A4:=CP (e.at c).A4 f g ⟨(e.at d).Az,L,L⟩,AG:=CP (e.at c).AG f g j}:=by unfold Ai.AD;rw[LX,HE i];rfl
   rw[xu]at R;refine⟨xk,_,AZ B B ?_,⟨xh,E,R,P⟩,q.M8 i X Y Z k xc,P⟩;rw[SV.1];simp only[QY,H (Eg t.x),SV.2.1,SV.2.2,H (Ha xs c 5), *]
  .rw[ds xf P,LY i,Af (by grind)];let⟨xl,yv,xr,xp⟩:=G.RG 6
   have xH:=xp.Fp (by grind) xd;refine⟨xl,v,AZ B B ?_,⟨xh,E,xr,P⟩,q,P⟩;rw[SV.1];simp only[QY,H (Eg t.x),SV.2.1,xt, *]
theorem kr{a:D}(o:Bj t h e v w u)(G:e.Ac.l<=400)(d c f:K)(l:a<e.Ac.l):∃j,jj W9 175 4 [.n a,.p t.x 0,.n d,.n c,.n f] h=(if(e.at a).AP=d/\(e.at a).Ax=c/\(e.at a).Az=f/\0<a then A (.n a,j)else jj W9 175 3 [.n a,.p t.x 0,.n d,.n c,.n f] j)/\AH h j:=by
 let⟨U,k,g,F⟩:=o
 let⟨E,I,S⟩:=g.Sh l
 have T:=g.cv;let⟨R,b,z,y,m,i,J,M⟩:=box h (.I 7 (DM k e a))
 let⟨W,V⟩:=EL h (b:=7) [.n 0,.n 0,.n 0,.n 0,.sn,.sn,.sn] (c:=DM k e a) z y B (Si g l)
 have N:b.Ap _ 1=A _:=Ay i 1;have P:b.Ap _ 2=A _:=Ay i 2;have Q:b.Ap _ 3=A (.n (e.at a).Az):=Ay i 3;refine⟨b,?_,m⟩;rw[UT.2.2.2.1];by_cases p:(e.at a).AP=d
 .by_cases q:(e.at a).Ax=c
  .by_cases r:(e.at a).Az=f
   .by_cases s:0<a
    .rw[Af ⟨p,q,r,s⟩];have x:(a:K)>0:=by omega
     simp only[QY,H (Eg t.x), *]
    .rw[Ad Om];have x:¬(a:K)>0:=by omega
     simp only[QY,H (Eg t.x), *]
   .rw[Ad Om];simp only[QY,H (Eg t.x), *]
  .rw[Ad Om];simp only[QY,H (Eg t.x), *]
 .rw[Ad Om];simp only[QY,H (Eg t.x), *]
theorem pl(b:Bj t h e v w u)(E:e.Ac.l<=400)(f d g:K){c:D}(Q:c<e.Ac.l)(R:(e.at c).AP=f/\(e.at c).Ax=d/\(e.at c).Az=g/\0<c)(U:∀a,a<c->¬((e.at a).AP=f/\(e.at a).Ax=d/\(e.at a).Az=g/\0<a)):∃z,W9 (pos 175) [.p t.x 0,.n f,.n d,.n g] h=A (.n c,z)/\AH h z:=by
 have J:∀{b:G}(_:Bj t b e v w u),∃m,b.Ap t.x 1=A m/\DX [m]=A (.n e.Ac.l):=λ{b} T=>by
  let⟨Y,N,y,W⟩:=T
  have k:=Cp (y.Db .Ac);rw[Ad0]at k;exact⟨N .Ac,y.cv,k⟩
 let⟨_,p,r,j⟩:=Dh (h:=c) (f:=λa _ b=>jj W9 175 2 [.p t.x 0,.n f,.n d,.n g,.n a] b) (g:=λa _ b=>AH h b)
  (λa Z V P j=>by
   have q:a<(e.Ac.l:K):=by omega
   let⟨m,x,k⟩:=J (b.ext j)
   let⟨p,l,o⟩:=kr (b.ext j) E f d g (a:=a) (by omega)
   rw[Ad (U a P)]at l;refine⟨(),p,?_,j.AI o⟩;show jj W9 175 2 _ _=jj W9 175 2 _ _;rw[UT.2.2.1];simp only[QY,x,k,q];rw[l,UT.2.2.2.2];simp only[↓H (Bh (a:=a) (by omega))])
  (b:=()) (a:=h) (λX S=>⟨B,S⟩)
 have r:jj W9 175 2 [.p t.x 0,.n f,.n d,.n g,.n 0] h=jj W9 175 2 [.p t.x 0,.n f,.n d,.n g,.n c] p:=r;let⟨m,x,k⟩:=J (b.ext j)
 have q:c<(e.Ac.l:K):=by omega
 let⟨M,l,o⟩:=kr (b.ext j) E f d g Q
 rw[Af R]at l;refine⟨M,AZ B B ?_,j.AI o⟩;rw[UT.1,r,UT.2.2.1];simp only[QY,x,k,q];grind
end
structure L6(z:G)(n:D)(w:T->Bm)(h:G)(q:T)(c:AK)(y:C (C K))(u s t m:F)(p r:D->F):Prop where
 M:h.M q=A (.I 7 [.n c.Bc,.n c.AP,.n c.Ax,.n c.Az,u,s,t])
 lv:Lv h q
 B3:w q=.BC n
 An:Aw h u N.c 2 c.An
 Fr:Tg w u (.An n)
 AG:M6 N.c 2 w h (.AG n) (.AD n) s p c.AG
 AS:Aw h t Be 1 c.AS
 Fq:Tg w t (.AS n)
 Kx:M6 Be 1 w h (.A4 n) (.B1 n) m r y
 BO:∀a,Lv z a->w a=.C5
 ext:AH z h
section
variable{z:G} {n:D} {w:T->Bm} {h:G} {q:T} {c:AK} {y:C (C K)} {u s t m:F} {p r:D->F}
theorem L6.Ax(f:L6 z n w h q c y u s t m p r){j:D}(xs:j<=1000)(xj:c.AG.l<1000000)(xk:y.l<1000000):∃P xc k x l,Gd [(.i .u8 0),(.n 0)] 2 16 h.next [.n j,.n j]=A (P,xc)/\(∀(H:F×G->R),((Dq 1 1 (h.V P).next [xc]).b λa=>(DN 1 24 (G.V (h.V P) a.1) [s,a.2]).b H)=H (k,x))/\AX 1 x [.p q 5,k]=A (AC,l)/\
  ∃W xd S E xr xp xh,Gd [(.n 0)] 1 8 l.next [.n j,.n j]=A (W,xd)/\(∀(H:F×G->R),((Dq 1 1 (l.V W).next [xd]).b λa=>(DN 1 24 (G.V (l.V W) a.1) [m,a.2]).b H)=H (S,E))/\
   L6 z n xr E q {c with AG:=c.AG++[BG j AO]} (y++[BG j 0]) u k t S xp xh:=by
 let⟨k,x,Y,xm,V,T,J⟩:=f.AG.Es (by grind) (by grind) xj (H:=.I (j*2) ((BG j AO).f N.c)) (Tu h j) NU B B
 have xi:=(T q f.lv (by rw[f.B3];intro g;cases g)).1.t f.M
 have xt:=(T q f.lv (by rw[f.B3];intro g;cases g)).2
 have Z:=Gx (d:=5) (a:=k) xi (by omega) (by omega) (Cr V.o).1 (Cr V.o).2
 have xg:Dg 5 [k] [.n c.Bc,.n c.AP,.n c.Ax,.n c.Az,u,s,t]=[.n c.Bc,.n c.AP,.n c.Ax,.n c.Az,u,k,t]:=B
 rw[xg]at Z
 have X:∀a,a≠q->(x.set q (.I 7 [.n c.Bc,.n c.AP,.n c.Ax,.n c.Az,u,k,t])).M a=x.M a:=λa e=>by rw[AN,Ad e]
 have xa:(x.set q (.I 7 [.n c.Bc,.n c.AP,.n c.Ax,.n c.Az,u,k,t])).M q=A (.I 7 [.n c.Bc,.n c.AP,.n c.Ax,.n c.Az,u,k,t]):=by rw[AN,Af B]
 have xo:∀a,Lv (x.set q (.I 7 [.n c.Bc,.n c.AP,.n c.Ax,.n c.Az,u,k,t])) a=Lv x a:=by grind
 refine⟨_,_,k,x,_,Ti h.next j (by omega),xm,Z,?_⟩
 generalize x.set q (.I 7 [.n c.Bc,.n c.AP,.n c.Ax,.n c.Az,u,k,t])=l at X xa xo
 have U:∀a,Lv h a->w a≠.AG n->w a≠.BC n->l.M a=h.M a/\Lv l a:=λa e d P=>⟨(X a (λg=>P (by rw[g];exact f.B3))).t (T a e d).1,by grind⟩
 have i:L6 z n Y l q {c with AG:=c.AG++[BG j AO]} y u k t m (BW p c.AG.l (.Z h.next 0 j (j+1) 2)) r:={
  M:=xa
  lv:=by grind
  B3:=(J q f.lv).t f.B3
  An:=f.An.Ar λa e d=>U a e (by rw[f.Fr a d];intro g;cases g) (by rw[f.Fr a d];intro g;cases g)
  Fr:=λa d=>(J a (f.An.Cz d)).t (f.Fr a d)
  AG:=V.Ar λa e d=>⟨X a (λg=>by subst g;rw[(J a f.lv).t f.B3]at d;rcases d with d|⟨xl,d⟩<;>cases d),by grind,B⟩
  AS:=f.AS.Ar λa e d=>U a e (by rw[f.Fq a d];intro g;cases g) (by rw[f.Fq a d];intro g;cases g)
  Fq:=λa d=>(J a (f.AS.Cz d)).t (f.Fq a d)
  Kx:=f.Kx.Ar λa e d=>by
   have xu:w a≠.AG n/\w a≠.BC n:=by rcases d with d|⟨xl,d⟩<;>rw[d]<;>grind
   grind
  BO:=λa e=>(J a (f.ext.lv e)).t (f.BO a e)
  ext:=λa e=>by have xq:=f.BO a e;have:=U a (f.ext.lv e) (by grind) (by grind);exact⟨this.1.t (f.ext.M e),this.2⟩}
 let⟨S,E,xb,xn,xf,I,Q⟩:=i.Kx.Es (by grind) (by grind) xk (H:=.I (j*1) ((BG j 0).f Be)) (bN l j) NU B B
 refine⟨_,_,S,E,xb,BW p c.AG.l (.Z h.next 0 j (j+1) 2),BW r y.l (.Z l.next 0 j (j+1) 1),bn l.next j (by omega),xn,?_⟩
 have xe:∀a,Lv l a->Y a≠.A4 n->E.M a=l.M a/\Lv E a/\xb a=Y a:=by grind
 exact{
  M:=(I q i.lv (by rw[i.B3];intro g;cases g)).1.t i.M
  lv:=(I q i.lv (by rw[i.B3];intro g;cases g)).2
  B3:=(Q q i.lv).t i.B3
  An:=i.An.Ar λa e d=>I a e (by rw[i.Fr a d];intro g;cases g)
  Fr:=λa d=>(Q a (i.An.Cz d)).t (i.Fr a d)
  AG:=i.AG.Ar λa e d=>xe a e (by grind)
  AS:=i.AS.Ar λa e d=>I a e (by rw[i.Fq a d];intro g;cases g)
  Fq:=λa d=>(Q a (i.AS.Cz d)).t (i.Fq a d)
  Kx:=xf
  BO:=λa e=>(Q a (i.ext.lv e)).t (i.BO a e)
  ext:=λa e=>by have xq:=i.BO a e;have:=I a (i.ext.lv e) (by grind);exact⟨this.1.t (i.ext.M e),this.2⟩}
end
def XX{q:Type}{d:G}{e:F}{b c:q->C _}{f:D}{a:C _}(p:Aw d e b f a)(j:∀g∈a,b g=c g):Aw d e c f a:=by
 rcases p with k|⟨h,i,l,m,n,o⟩;.exact .i k
 .exact .j ⟨h,i,l,m,by rw[n,W4 a j],o⟩
open Classical in
def cO{i:T->Bm}{b:G}{c:T}{n:C F}(Q:b.M c=A (.I 8 n))(xb:Lv b c)(xm:i c=.Ex){H:Type}{r:F}{k:H->C F}{m s:D}{t:C H}(xd:Aw b r k m t){h:Bm}(xf:Tg i r h)(xk:h≠.Ex){j:D}(xl:j<8)(Y:∀c,(k c).l=m){p:H}{E:F}(U:BU (k p)=L)(Z:E.I=k p)(V:(t.l+1)*s<=GA):
  ∃e g l z,(∀(I:F×G->R),((Dq 1 m b.next [E]).b λa=>(DN m s (G.V b a.1) [r,a.2]).b I)=I (e,g))/\g.M c=A (.I 8 n)/\AX 1 g [.p c j,e]=A (AC,l)/\l.M c=A (.I 8 (Dg j [e] n))/\Lv l c/\Aw l e k m (t++[p])/\Tg z e h/\
   (∀a,Lv b a->i a≠h->i a≠.Ex->l.M a=b.M a/\Lv l a)/\(∀a,Lv b a->z a=i a)/\(∀a,Lv b a->i a≠h->g.M a=b.M a/\Lv g a)/\∀a,¬Lv b a->¬As e a->z a=h:=by
 let⟨e,g,xa,u,xj,xg⟩:=FJ (f:=k) (w:=m) (b:=p) (o:=E) (h:=s) Y U Z xd V
 have xh:∀d,Lv b d->i d≠h->As r d:=λd X q=>AdS λj=>q (xf d j)
 have J:∀d,Lv b d->i d≠h->g.M d=b.M d/\Lv g d:=by grind
 have xc:i c≠h:=by grind
 have M:=(J c xb xc).1.t Q
 have N:=Gx (d:=j) (a:=e) M (by omega) (by omega) (Cr u).1 (Cr u).2
 have xe:∀a,a≠c->(g.set c (.I 8 (Dg j [e] n))).M a=g.M a:=λa W=>by rw[AN,Ad W]
 have S:(g.set c (.I 8 (Dg j [e] n))).M c=A (.I 8 (Dg j [e] n)):=by rw[AN,Af B]
 refine⟨e,g,_,λa=>if Lv b a then i a else if As e a then .C5 else h,xa,M,N,S,by grind,u.Ar λd X q=>⟨xe d (λxi=>q (by grind)),by grind⟩,λa q=> ?_,P,P,J,P⟩<;>grind
def Wg(b:Bm->F)(d h g:D)(k j e m:F)(i f:D->F):Bm->F
 | .An a=>if a=d then k else b (.An a)
 | .AG a=>if a=d then j else b (.AG a)
 | .AD a c=>if a=d then(if c<h then i c else .sn)else b (.AD a c)
 | .AS a=>if a=d then e else b (.AS a)
 | .A4 a=>if a=d then m else b (.A4 a)
 | .B1 a c=>if a=d then(if c<g then f c else .sn)else b (.B1 a c)
 |l=>b l
def XD{c:Type}(a:C _)(b:c):(a++[b]).l=a.l+1:=AdY
def E8:Bm->Ah
 | .An _| .AG _| .AD _ _| .AS _| .A4 _| .B1 _ _| .BC _=>L
 |_=>Aa
open Classical in
def nE{H:EC}{V n:G}{f:Ai}{I:C (C (C K))}{xs:K}{xm:T->Prop}(yh:Bj H V f I xs xm)(xX:I.l=f.Ac.l)(yR:f.Ac.l<=400){xC:T->Bm}{xz:T}{r:AK}{J:C (C K)}{xf xe Z U:F}{xd xa:D->F}(h:L6 V f.Ac.l xC n xz r J xf xe Z U xd xa)(yl:r.next= -1):∃xv,jj W9 75 1 [.p xz 0,U,.p H.x 0] n=A (.n f.Ac.l,xv)/\Bj H xv ⟨f.Ac++[r],f.Am,f.round,f.AA⟩ (I++[J]) xs xm/\Bo xm V xv:=by
 let⟨yb,l,v,yk⟩:=yh
 have Y:∀W,(Ai.mk (f.Ac++[r]) f.Am f.round f.AA).at W=if W=f.Ac.l then r else f.at W:=λW=>FQ W;have xk:(Ai.mk (f.Ac++[r]) f.Am f.round f.AA).Ac.l=f.Ac.l+1:=P;generalize xW:Ai.mk (f.Ac++[r]) f.Am f.round f.AA=x at Y xk;let w:T->Bm:=λc=>if Lv V c then yb c else xC c
 have x9:∀c,Lv V c->w c=yb c:=P;let u:Bm->F:=Wg l f.Ac.l r.AG.l J.l xf xe Z U xd xa
 have xg:∀{yH:Type}{yj:yH->C F}{yD yq xE e},Aw n xE yj yD yq->Tg xC xE e->e≠.C5->∀c,¬As xE c->Lv n c/\w c=e:=λyS xK S c g=>⟨P,by show(if _ then _ else _)=_;rw[Ad λym=>S ((xK c g).s.t (h.BO c ym)),xK c g]⟩;have xh:∀e,e≠.C5->∀c,¬As (l e) c->Lv n c/\w c=e:=λe S c g=>by have:=v.tg _ S c g;exact⟨h.ext.lv P,by grind⟩
 have xu:(I++[J])[f.Ac.l]? =A J:=by grind
 have xQ:∀d,d≠f.Ac.l->∀E,(I++[J])[d]? =A E->I[d]? =A E:=P;have xJ:∀e,E8 e=L->(∀c,¬As (u e) c->Lv n c/\w c=e)/\L9 n u x (I++[J]) e:=λe S=>by
  cases e with
  |An d=>
   show(∀c,¬As (if d=_ then xf else l (.An d)) c->_)/\(_->Aw n (if d=_ then xf else l (.An d)) N.c 2 (x.at d).An);rw[Y,xk];by_cases j:d=f.Ac.l;.subst j;rw[Af B,Af B];exact⟨xg h.An h.Fr (by simp),λ_=>h.An⟩
   .rw[Ad j,Ad j];exact⟨P,λxc=>Aw.ext (v.Db (.An d) (by omega)) h.ext⟩
  |AS d=>
   show(∀c,¬As (if d=_ then Z else l (.AS d)) c->_)/\(_->Aw n (if d=_ then Z else l (.AS d)) Be 1 (x.at d).AS);rw[Y,xk];by_cases j:d=f.Ac.l;.subst j;rw[Af B,Af B];exact⟨xg h.AS h.Fq (by simp),λ_=>h.AS⟩
   .rw[Ad j,Ad j];exact⟨P,λxc=>Aw.ext (v.Db (.AS d) (by omega)) h.ext⟩
  |AG d=>
   show(∀c,¬As (if d=_ then xe else l (.AG d)) c->_)/\(_->Aw n (if d=_ then xe else l (.AG d)) (EE λi=>if d=_ then(if i<_ then xd i else .sn)else l (.AD d i)) 1 (List.range (x.at d).AG.l));rw[Y,xk];by_cases j:d=f.Ac.l;.subst j;simp only[eq_self,Aea];exact⟨xg h.AG.o h.AG.t (by simp),λ_=>XX h.AG.o λi R=>by show[xd i]=[if i<_ then _ else _];rw[Af (AeU.1 R)]⟩
   .simp only[Ad j];exact⟨xh _ (by simp),λxc=>Aw.ext (v.Db (.AG d) (by omega)) h.ext⟩
  |AD d i=>
   show(∀c,¬As (if d=_ then(if i<_ then xd i else .sn)else l (.AD d i)) c->_)/\∀q,(x.at d).AG[i]? =_->Aw n (if d=_ then(if i<_ then xd i else .sn)else l (.AD d i)) N.c 2 q;rw[Y];by_cases j:d=f.Ac.l
   .subst j;rw[Af B,Af B];by_cases Q:i<r.AG.l
    .rw[Af Q];let⟨q,o⟩:=Bb Q
     exact⟨xg (h.AG.r i q o).1 (h.AG.r i q o).2 (by simp),λq o=>(h.AG.r i q o).1⟩
    .rw[Ad Q];exact⟨λc g=>BF (Cg c) g,λq o=>BF (AdN.1 o).1 Q⟩
   .rw[Ad j,Ad j];exact⟨xh _ (by simp),λq o=>Aw.ext (v.Db (.AD d i) q o) h.ext⟩
  |A4 d=>
   show(∀c,¬As (if d=_ then U else l (.A4 d)) c->_)/\∀E:C (C K),_->Aw n (if d=_ then U else l (.A4 d)) (EE λi=>if d=_ then(if i<_ then xa i else .sn)else l (.B1 d i)) 1 (List.range E.l);by_cases j:d=f.Ac.l
   .subst j;simp only[eq_self,Aea];exact⟨xg h.Kx.o h.Kx.t (by simp),λE o=>by
     cases xu.s.t o
     exact XX h.Kx.o λi R=>by show[xa i]=[if i<_ then _ else _];rw[Af (AeU.1 R)]⟩
   .simp only[Ad j];exact⟨xh _ (by simp),λE o=>Aw.ext (v.Db (.A4 d) E (xQ d j E o)) h.ext⟩
  |B1 d i=>
   show(∀c,¬As (if d=_ then(if i<_ then xa i else .sn)else l (.B1 d i)) c->_)/\∀E q,_->_->Aw n (if d=_ then(if i<_ then xa i else .sn)else l (.B1 d i)) Be 1 q;by_cases j:d=f.Ac.l
   .subst j;rw[Af B];by_cases Q:i<J.l
    .rw[Af Q];let⟨q,o⟩:=Bb Q
     exact⟨xg (h.Kx.r i q o).1 (h.Kx.r i q o).2 (by simp),λE q o R=>by cases xu.s.t o;exact(h.Kx.r i q R).1⟩
    .rw[Ad Q];exact⟨λc g=>BF (Cg c) g,λE q o R=>by cases xu.s.t o;exact BF (AdN.1 R).1 Q⟩
   .rw[Ad j];exact⟨xh _ (by simp),λE q o R=>Aw.ext (v.Db (.B1 d i) E q (xQ d j E o) R) h.ext⟩
  |BC d=>exact⟨xh _ (by simp),Aeb⟩
  |_=>cases S
 have xM:∀d,DM u x d=if d=f.Ac.l then[.n r.Bc,.n r.AP,.n r.Ax,.n r.Az,xf,xe,Z]else DM l f d:=λd=>by unfold DM;rw[Y d];show[_,_,_,_,(if _ then xf else _),(if _ then xe else _),(if _ then Z else _)]=_;split<;>rfl
 have ys:Aw n (l .Ac) (DM u x) 7 (List.range f.Ac.l):=XX (Aw.ext (v.Db .Ac) h.ext) λd xc=>by rw[xM,Ad (by have:=AeU.1 xc;omega)]
 have x5:Aw n (l .Bn) (EE λd=>u (.A4 d)) 1 (List.range f.Ac.l):=by have yc:Aw V (l .Bn) (EE λd=>l (.A4 d)) 1 (List.range I.l):=v.Db .Bn;rw[xX]at yc;exact XX (yc.ext h.ext) λd xc=>by show[l (.A4 d)]=[if d=_ then U else l (.A4 d)];rw[Ad (by have:=AeU.1 xc;omega)]
 have x7:Aw n (l .Am) GO 1 f.Ac:=Aw.ext (v.Db .Am) h.ext;have xr:=xM f.Ac.l;rw[Af B]at xr;have xS:=(h.ext.M v.lv).t v.M;have x1:=h.ext.lv v.lv;have yd:w H.x=.Ex:=(x9 _ v.lv).t v.B3;have xi:∀e,e≠.C5->Tg w (l e) e:=λe S c g=>(xh e S c g).2;let⟨xo,yO,xw,ya,yn,yL,yv,xT,x2,xy,yz,xO,xl,yI,yT⟩:=cO xS x1 yd ys (h:=.Ac) (xi .Ac (by simp)) (by simp) (j:=1) (by omega) (λ_=>B) (p:=f.Ac.l) (E:=.S (DM u x f.Ac.l)) (s:=104) (by rw[xr,DJ];simp only[Aer,List.all_nil,Ru h.An,Ru h.AG.o,Ru h.AS];rfl) B (DG (by rw[Ad0];omega))
 have yt:Aw xw (l .Bn) (EE λd=>u (.A4 d)) 1 (List.range f.Ac.l):=x5.Ar λc z g=>xO c z (by rw[xi .Bn (by simp) c g];simp) (by rw[xi .Bn (by simp) c g];simp);have yA:Tg ya (l .Bn) .Bn:=λc g=>(xl c (x5.Cz g)).t (xi .Bn (by simp) c g);have ye:ya H.x=.Ex:=(xl _ x1).t yd;have xR:u (.A4 f.Ac.l)=U:=Af B;let⟨xF,yP,xb,xB,yo,yM,yw,xU,x3,x6,yB,xP,xA,yJ,yU⟩:=cO xT x2 ye yt (h:=.Bn) yA (by simp) (j:=5) (by omega) (λ_=>B) (p:=f.Ac.l) (E:=U) (s:=24) (by show BU [u (.A4 f.Ac.l)]=L;rw[xR,DJ];simp[Ru h.Kx.o]) (by show U.I=[u (.A4 f.Ac.l)];rw[xR];exact(Cr h.Kx.o).1) (DG (by rw[Ad0];omega))
 have xG:∀c,Lv n c->w c≠.Ac->w c≠.Bn->w c≠.Ex->xb.M c=n.M c/\Lv xb c/\xB c=w c:=λc z s xj j=>by have m:=xO c z s j;have p:=xP c m.2 (by rw[xl c z];exact xj) (by rw[xl c z];exact j);exact⟨p.1.t m.1,p.2,(xA c m.2).t (xl c z)⟩
 have xp:∀c,¬As (l .Am) c->xb.M c=n.M c/\Lv xb c/\xB c=.Am:=λc g=>by have e:=xi .Am (by simp) c g;have m:=xG c (x7.Cz g) (by rw[e];simp) (by rw[e];simp) (by rw[e];simp);exact⟨m.1,m.2.1,m.2.2.t e⟩
 have yf:xB H.x=.Ex:=(xA _ x2).t ye;have x4:GO r=[.b Aa]:=by unfold GO;rw[yl];rfl
 let⟨yg,yQ,t,X,yp,yN,yx,xV,yr,x8,yC,xt,xn,yK,yV⟩:=cO xU x3 yf (x7.Ar λc _ g=>⟨(xp c g).1,(xp c g).2.1⟩) (h:=.Am) (λc g=>(xp c g).2.2) (by simp) (j:=6) (by omega) (λ_=>B) (p:=r) (E:=.b Aa) (s:=1) (by rw[x4];rfl) (by rw[x4];rfl) (DG (by omega))
 have xH:∀c,Lv n c->w c≠.Ac->w c≠.Bn->w c≠.Am->w c≠.Ex->t.M c=n.M c/\Lv t c/\X c=w c:=λc z s xj j r=>by have m:=xG c z s xj r;have p:=xt c m.2.1 (by rw[m.2.2];exact j) (by rw[m.2.2];exact r);exact⟨p.1.t m.1,p.2,(xn c m.2.1).t m.2.2⟩
 have xq:∀c,¬As xo c->t.M c=xw.M c/\Lv t c/\X c=.Ac:=λc g=>by have xY:=xy.Cz g;have e:=yz c g;have p:=xP c xY (by rw[e];simp) (by rw[e];simp);have j:=(xA c xY).t e;have m:=xt c p.2 (by rw[j];simp) (by rw[j];simp);exact⟨m.1.t p.1,m.2,(xn c p.2).t j⟩
 have xx:∀c,¬As xF c->t.M c=xb.M c/\Lv t c/\X c=.Bn:=λc g=>by have xZ:=x6.Cz g;have e:=yB c g;have p:=xt c xZ (by rw[e];simp) (by rw[e];simp);exact⟨p.1,p.2,(xn c xZ).t e⟩
 let xL:Bm->F:=λe=>match e with| .Ac=>xo| .Bn=>xF| .Am=>yg| .Ex=>.sn|e=>u e
 have xD:∀e,E8 e=L->∀c,¬As (u e) c->t.M c=n.M c/\Lv t c/\X c=e:=λe s c g=>by have m:=(xJ e s).1 c g;have p:=xH c m.1 (by rw[m.2];rintro rfl;cases s) (by rw[m.2];rintro rfl;cases s) (by rw[m.2];rintro rfl;cases s) (by rw[m.2];rintro rfl;cases s);exact⟨p.1,p.2.1,p.2.2.t m.2⟩
 have yy:∀e,E8 e=L->L9 t u x (I++[J]) e:=λe s=>(xJ e s).2.Ar λc _ g=>⟨(xD e s c g).1,(xD e s c g).2.1⟩;have yi:BZ X t H.l H.x x (I++[J]) xs xL:={
  M:=by rw[<-xW];exact xV
  lv:=yr
  B3:=(xn _ x3).t yf
  tg:=λe S c g=>by
   cases e with
   |Ac=>exact(xq c g).2
   |Bn=>exact(xx c g).2
   |Am=>exact⟨x8.Cz g,yC c g⟩
   |Ex=>exact BF (Cg c) g
   |C5=>exact BF B S
   |_=>exact(xD _ B c g).2
  Db:=λe=>by
   have W:=yy e
   cases e with
   |Ac=>show Aw t xo (DM u x) 7 (List.range x.Ac.l);rw[xk,AeX];exact xy.Ar λc _ g=>⟨(xq c g).1,(xq c g).2.1⟩
   |Bn=>show Aw t xF (EE λd=>u (.A4 d)) 1 (List.range (I++[J]).l);rw[XD,xX,AeX];exact x6.Ar λc _ g=>⟨(xx c g).1,(xx c g).2.1⟩
   |Am=>show Aw t yg GO 1 x.Ac;rw[<-xW];exact x8
   |Ex=>trivial
   |C5=>trivial
   |_=>exact W B}
 have xI:∀c,xm c->t.M c=V.M c/\Lv t c/\X c=.C5:=λc z=>by
  let⟨s,xj⟩:=yk c z
  have m:=(x9 c s).t xj;have p:=xH c (h.ext.lv s) (by rw[m];simp) (by rw[m];simp) (by rw[m];simp) (by rw[m];simp);exact⟨p.1.t (h.ext.M s),p.2.1,p.2.2.t m⟩
 refine⟨t,?_,⟨X,xL,yi,λc z=>(xI c z).2⟩,λc z=>(xI c z).1⟩;have yu:n.AL xz 0 7=A (DM u x f.Ac.l):=by rw[xr];exact BB h.M
 have yF:xw.Ap H.x 5=A (l .Bn):=Ay xT 5;have yG:xb.Ap H.x 6=A (l .Am):=Ay xU 6;have yE:t.Ap H.x 1=A xo:=Ay xV 1;have x0:=Cp xy;rw[AdY,Ad0,AeE]at x0;have xN:=FA (a:=(f.Ac.l+1:D)) (b:=1) (by omega) (by omega);rw[show(f.Ac.l+1:D)-1=(f.Ac.l:K) by omega]at xN;rw[Px.2.2.1];simp only[QY,xS,yu,yn,yv,yF,yo,yw,yG,yp,yx,yE,x0,xN]
def In(a:C Ab)(c:C Au):C (C K):=c.m λb=>BG (C7 a b).n 0
def J6(c:C Ab)(a:Ab)(b f d g:K)(i:N):AK:={Dl c a b f d g with An:=(BG a.An.n AO).set 0 i}
def Ns(b:C Ab)(a:Ab)(c i g j:K)(k:N)(d:D):AK:={J6 b a c i g j k with AG:=(a.Av.t d).m λf=>BG (C7 b f).n AO}
theorem uw(c:C _)(a:Ab)(b f d g:K)(i:N):Ns c a b f d g i a.Av.l=J6 c a b f d g i:=by unfold Ns;rw[Aeq Om];rfl
section
variable{t:EC} {h:G} {e:Ai} {v:C (C (C K))} {r:K} {u:T->Prop}
theorem tN(X:BD t.l){d:G}{xN:d.Ap t.x 0=A (Z Ab.c t.l)}(xr:∃xi,d.M t.x=A (.I 8 (Z Ab.c t.l::xi))/\Lv d t.x){xc c:D}{a:Ab}(xp:t.l[c]? =A a){k j l:K}{o:N}{x f:T}(xf:d.M x=A (.I 5 (Ab.c a)))(xh:Lv d x){h:G}{P:T->Bm}{w q:F}{E y:D->F}{M W:F}(p:L6 d xc P h f (Ns t.l a c k j l o 0) [] w M q W E y):∃R U Q xe xd xa J z,jj W9 75 2 [.p x 0,.n 0,.p f 0,W,.p t.x 0] h=jj W9 75 1 [.p f 0,R,.p t.x 0] U/\L6 d xc Q U f (J6 t.l a c k j l o) (In t.l a.Av) xe xd xa R J z:=by
 have xA:=(X.Bc c a xp).Av;let⟨xi,xn,xq⟩:=xr
 let⟨R,U,Y,Q,xe,xd,xa,J,z,S⟩:=Dh (h:=a.Av.l) (f:=λb V h=>jj W9 75 2 [.p x 0,.n b,.p f 0,V,.p t.x 0] h) (g:=λb V h=>∃P w M q E y,L6 d xc P h f (Ns t.l a c k j l o b) (In t.l (a.Av.t b)) w M q V E y)
  (λb V h xg xj=>by
   let⟨P,w,M,q,E,y,p⟩:=xj
   let⟨g,xb⟩:=Bb xg
   have xw:=Cm xg;have xD:=Rs X g;have xk:=((p.ext.M xh).t xf);have xM:=(p.ext.M xq).t xn;have xI:=p.M;have xB:(Ns t.l a c k j l o b).AG.l<=b:=by show(List.map _ (a.Av.t b)).l<=b;grind
   have xC:(In t.l (a.Av.t b)).l<=b:=by unfold In;grind
   let⟨xv,xK,xs,xy,xz,xl,xE,xJ,xu,xL,xt,xo,Q,J,z,xm,xF,S⟩:=p.Ax (j:=(C7 t.l g).n) (by omega) (by omega) (by omega)
   rw[show(C7 t.l g).n=C7 t.l g by omega]at xl xm;refine⟨xt,xo,?_,Q,w,xs,q,J,z,?_⟩;.rw[Px.2.2.2.1];simp only[QY,Px.2.2.2.2.1,H (Fa xb),(gm t.l g (by have:=X.A7;omega)).H B,Px.2.2.2.2.2,H (Bh (a:=b) (by omega)), *]
   .have xG:Ns t.l a c k j l o (b+1)={Ns t.l a c k j l o b with AG:=(Ns t.l a c k j l o b).AG++[BG (C7 t.l g).n AO]}:=by
     unfold Ns
     rw[<-FL xb,Aes];rfl
    have xH:In t.l (a.Av.t (b+1))=In t.l (a.Av.t b)++[BG (C7 t.l g).n 0]:=by unfold In;rw[<-FL xb,Aes];rfl
    grind)
  (b:=W) (a:=h) ⟨P,w,M,q,E,y,p⟩
 have Y:jj W9 75 2 [.p x 0,.n 0,.p f 0,W,.p t.x 0] h=jj W9 75 2 [.p x 0,.n a.Av.l,.p f 0,R,.p t.x 0] U:=Y;rw[uw,Gz]at S;have xx:=CA a.Av.l;have xk:=(S.ext.M xh).t xf;refine⟨R,_,Q,xe,xd,xa,J,z,?_,S⟩;rw[Y,Px.2.2.2.1];simp only[QY, *]
open Classical in
theorem ah (xk:BD t.l) (xi:Bj t h e v r u) (xT:v.l=e.Ac.l) (x0:e.Ac.l<=400) {j:D} {a:Ab} (xa:t.l[j]? =A a) (p o s:K) (d:N):(e.Ac.l=400->∃E,W9 (pos 75) [.p t.x 0,.n j,.n p,.n o,.n s,.S (N.c d)] h=A (.n (-1),E)/\Bj t E e v 5 u/\Bo u h E)/\(e.Ac.l≠400->∃E,W9 (pos 75) [.p t.x 0,.n j,.n p,.n o,.n s,.S (N.c d)] h=A (.n e.Ac.l,E)/\Bj t E ⟨e.Ac++[J6 t.l a j p o s d],e.Am,e.round,e.AA⟩ (v++[In t.l a.Av]) r u/\Bo u h E):=by
 have xe:=xk.Bc j a xa;have yu:=xe.Av;have yv:=xe.An;let⟨yc,J,x5,xU,xD,yr,yA,yC⟩:=box h (.I 2 (N.c d))
 have xC:=Ko h d x5 xU;have yw:∀b,u b->Lv h b:=λb G=>xi.C4 G;have xj:=xi.V xD;have xE:=xj;let⟨yd,xK,x,xS⟩:=xj
 have xz:=x.cv;have xb:=Cp (x.Db .Ac);rw[Ad0]at xb;constructor
 .intro xO;let⟨c,yh,xL,xJ⟩:=x.RG 5
  let⟨yo,yp⟩:=xJ.Fp (by grind) xS
  refine⟨c,AZ B B ?_,⟨yd,xK,xL,P⟩,P⟩;have V:(e.Ac.l:K)=400:=by omega
  rw[Px.1];simp only[↓xC,↓Q,↓QT,↓H (Eg t.x),↓H xz,↓H xb,V,↓H yh]
 .intro xO;let⟨xx,c,x6,xV,S,X,xs,yD⟩:=box J (.I 5 (Ab.c a))
  let⟨yk,yf⟩:=EL J (b:=5) [.s [],.n 0,.sn,.sn,.sn] (c:=Ab.c a) x6 xV B B
  have xF:=xE.V S;have yj:J.Ap _ 0=A (Z Ab.c t.l):=Ay x.M 0;have x8:A9 5 J [.pi (Ab.c a)]=A (.S (Ab.c a)):=B;have xM:c.Ap xx 1=A (.n a.An):=Ay X 1;have W:=Ti c.next a.An.n (by omega);rw[show a.An.n=a.An by omega]at W;have xc:=Tu c a.An.n;have T:AH c (c.V (.I (a.An.n*2) ((BG a.An.n AO).f N.c))):=AH.V _ _;have xq:Lv (c.V (.I (a.An.n*2) ((BG a.An.n AO).f N.c))) c.next:=E9 _ _;have ya:=EX c;generalize x4:c.next=R at W xc xq ya;generalize xW:c.V (.I (a.An.n*2) ((BG a.An.n AO).f N.c))=k at xc T xq;have xN:k.Ap xx 2=A (Z Au.c a.Av):=Ay ((T.M xs).t X) 2;have xl:=bn k.next a.Av.l (by omega);have xd:=bN k a.Av.l;have xg:AH k (k.V (.I (a.Av.l*1) ((BG a.Av.l 0).f Be))):=AH.V _ _;have xr:Lv (k.V (.I (a.Av.l*1) ((BG a.Av.l 0).f Be))) k.next:=P;have yb:=EX k;generalize x3:k.next=q at xl xd xr yb;generalize xX:k.V (.I (a.Av.l*1) ((BG a.Av.l 0).f Be))=xn at xd xg xr;let⟨I,F,xo,xY,xh,xm,yB,yE⟩:=box xn (.I 7 [.n j,.n p,.n o,.n s,.Z R 0 a.An.n (a.An.n+1) 2,.sn,.Z q 0 a.Av.l (a.Av.l+1) 1])
  let⟨yN,yg⟩:=EL xn (b:=7) [.n 0,.n 0,.n 0,.n 0,.sn,.sn,.sn] (c:=[.n j,.n p,.n o,.n s,.Z R 0 a.An.n (a.An.n+1) 2,.sn,.Z q 0 a.Av.l (a.Av.l+1) 1]) xo xY B B
  have xP:Cb [.n 0,.n 0,.n 0,.n 0,.sn,.sn,.sn] [(0,1),(1,1),(2,1),(3,1),(4,1),(6,1)] [.n j,.n p,.n o,.n s,.Z R 0 a.An.n (a.An.n+1) 2,.Z q 0 a.Av.l (a.Av.l+1) 1]=A (.S [.n j,.n p,.n o,.n s,.Z R 0 a.An.n (a.An.n+1) 2,.sn,.Z q 0 a.Av.l (a.Av.l+1) 1]):=B;have xf:=xg.AI xh;have yl:=T.AI xf;have xu:=xc.ext xf;let⟨yM,xp⟩:=Bb (b:=BG a.An.n AO) (a:=0) (by rw[Afr];omega)
  let⟨g,U⟩:=CD (f:=N.c) (w:=2) (λ_=>B) xu xp
  have x2:=NU _ U.nb;subst x2;let⟨xA,xv⟩:=U.set (f:=N.c) (w:=2) (λ_=>B) xu xp (c:=d) (g:=.S (N.c d)) B B
  have x7:AR 2 [.Z g 0 a.An.n (a.An.n+1) 2,.n 0]=A (.p g (0*2)):=U.ia;have xw:∀b,b≠g->(F.set g (.I ((BG a.An.n AO).l*2) (((BG a.An.n AO).set 0 d).f N.c))).M b=F.M b:=λb G=>by rw[AN,Ad G]
  have x9:∀b,Lv (F.set g (.I ((BG a.An.n AO).l*2) (((BG a.An.n AO).set 0 d).f N.c))) b=Lv F b:=P;generalize F.set g (.I ((BG a.An.n AO).l*2) (((BG a.An.n AO).set 0 d).f N.c))=Y at xA xv xw x9;have yH:q≠g:=P;have xy:I≠g:=P;have yJ:I≠q:=P;have ye:F.AL yc 0 2=A (N.c d):=BB P;have yi:F.Ap I 4=A (.Z g 0 a.An.n (a.An.n+1) 2):=Ay xm 4;have xH:L6 c e.Ac.l (λb=>if b=g then .An e.Ac.l else if b=q then .AS e.Ac.l else if b=I then .BC e.Ac.l else .C5) Y I (Ns t.l a j p o s d 0) [] (.Z g 0 a.An.n (a.An.n+1) 2) .sn (.Z q 0 a.Av.l (a.Av.l+1) 1) .sn (λ_=>.sn) (λ_=>.sn):={
   M:=(xw I xy).t xm
   lv:=by grind
   B3:=(Ad xy).t P
   An:=xv
   Fr:=λb m=>by have:=NU _ m;grind
   AG:=⟨Aw.sn Y,λb m=>BF (Cg b) m,λyx yz xZ=>by cases xZ⟩
   AS:=(xd.ext xh).Ar λb G m=>by have:=NU _ m;grind
   Fq:=λb m=>by have:=NU _ m;grind
   Kx:=⟨Aw.sn Y,λb m=>BF (Cg b) m,P⟩
   BO:=λb G=>P
   ext:=λb G=>⟨P,by grind⟩}
  have xt:∃xB,c.M t.x=A (.I 8 (Z Ab.c t.l::xB))/\Lv c t.x:=⟨_,(S.M x.lv).t x.M,S.lv x.lv⟩;let⟨yL,yt,yK,yI,yG,yq,yF,ys,yn,xI⟩:=tN xk (xN:=by let⟨xB,xQ,_⟩:=xt;exact Ay xQ 0) xt xa X xs xH
  let⟨xR,yy,xG,ym⟩:=nE xF xT x0 xI B
  refine⟨xR,AZ B B ?_,xG.sub P,P⟩;have V:¬(e.Ac.l:K)=400:=by omega
  rw[Px.1];simp only[↓xC,↓yk,↓Q,↓QT,AdM,↓H (Eg t.x),↓H xz,↓H xb,V,Px.2.1,↓H yj,↓H (CB xa),↓H x8,↓H yf,↓H xM,x4,↓H W,xW,↓H xN,x3,↓H xl,xX,↓H xP,xo,↓H yg,↓H yi,↓H ye,↓H x7,↓H xA];grind
end
theorem Xi{c:AF->N}{b:C _}{d:AK}{a:D}{f:AF}(g:b[a]? =A f):Dc c b d (a+1)=((FG (Dc c b d a).1 a (c f)).1,(FG (Dc c b d a).1 a (c f)).2||(Dc c b d a).2):=by show(match b[a]?with|some f=>_|none=>_)=_;rw[g]
theorem Xj{f:AF->N}{b:C AF}{a:AK}(d:(GQ a 0).Ak≠0):Dc f b a 1=(a,Aa):=by
 show(match b[0]?with|some c=>_|none=>_)=_
 cases h:b[0]?with
 |none=>rfl
 |some c=>show((FG a 0 _).1,(FG a 0 _).2||false)=_;rw[Xg (.j d)];rfl
def Ks(a:AK)(b c d:F):C F:=[.n a.Bc,.n a.AP,.n a.Ax,.n a.Az,b,c,d]
theorem QU:(∀(b:AK)(d f g:F),(Ks b d f g)[0]? =A (.n b.Bc))/\(∀(b:AK)(d f g:F),(Ks b d f g)[1]? =A (.n b.AP))/\(∀(b:AK)(d f g:F),(Ks b d f g)[2]? =A (.n b.Ax))/\(∀(b:AK)(d f g:F),(Ks b d f g)[3]? =A (.n b.Az))/\(∀(b:AK)(d f g:F),(Ks b d f g)[4]? =A (d))/\(∀(b:AK)(d f g:F),(Ks b d f g)[5]? =A (f))/\(∀(b:AK)(d f g:F),(Ks b d f g)[6]? =A (g))/\(∀(c:Bm->F)(e:Ai)(a:D),(DM c e a)[0]? =A (.n (e.at a).Bc))/\(∀(c:Bm->F)(e:Ai)(a:D),(DM c e a)[1]? =A (.n (e.at a).AP))/\(∀(c:Bm->F)(e:Ai)(a:D),(DM c e a)[2]? =A (.n (e.at a).Ax))/\(∀(c:Bm->F)(e:Ai)(a:D),(DM c e a)[3]? =A (.n (e.at a).Az))/\(∀(c:Bm->F)(e:Ai)(a:D),(DM c e a)[4]? =A (c (.An a)))/\(∀(c:Bm->F)(e:Ai)(a:D),(DM c e a)[5]? =A (c (.AG a)))/\(∀(c:Bm->F)(e:Ai)(a:D),(DM c e a)[6]? =A (c (.AS a))):=⟨λ_ _ _ _=>B,λ_ _ _ _=>B,λ_ _ _ _=>B,λ_ _ _ _=>B,λ_ _ _ _=>B,λ_ _ _ _=>B,λ_ _ _ _=>B,λ_ _ _=>B,λ_ _ _=>B,λ_ _ _=>B,λ_ _ _=>B,λ_ _ _=>B,λ_ _ _=>B,λ_ _ _=>B⟩
def Lk:=And.intro QY QU
section
variable{t:EC} {h:G} {e:Ai} {z:C (C (C K))} {y:K} {w:T->Prop} {u:F}
theorem tT(xd:Bj t h e z y (λa=>w a\/¬As u a)){c:D}(r:c<e.Ac.l){b:C AF}{f:AF->N}(U:Aw h u N.c 2 (b.m f))(xg:1<=b.l)(xj:b.l<=(e.at c).An.l)(xk:b.l<1000000)(R:(GQ (e.at c) 0).Ak≠0)(p q:F):∃g,jj W9 117 17 [u,.n 1,p,.p t.x 0,.n c,q,.b Aa] h=jj W9 117 16 [p,.p t.x 0,.n c,q,.b (Dc f b (e.at c) b.l).2] g/\Bj t g (e.AJ c (Dc f b (e.at c) b.l).1) z y (λa=>w a\/¬As u a)/\Bo (λa=>w a\/¬As u a) h g:=by
 let⟨⟨⟩,g,j,G,M⟩:=Dh (h:=b.l-1) (f:=λd _ h=>jj W9 117 17 [u,.n (d+1:D),p,.p t.x 0,.n c,q,.b (Dc f b (e.at c) (d+1)).2] h) (g:=λd _ g=>Bj t g (e.AJ c (Dc f b (e.at c) (d+1)).1) z y (λa=>w a\/¬As u a)/\Bo (λa=>w a\/¬As u a) h g)
  (λd _ xh xi W=>by
   let⟨J,P⟩:=W
   let⟨Q,S⟩:=Bb (b:=b) (a:=d+1) (by omega)
   have Y:(d+1:D)<((b.m f).l:K):=by grind
   have E:=U.Ar λa x o=>⟨P a (.j o),J.C4 (.j o)⟩;have T:=Cp E;let⟨xe,xl,xm⟩:=E.rd (b:=d+1) (i:=f Q) (by grind)
   have xc:=(ME f b (e.at c) (d+1)).1;have xa:c<(e.AJ c (Dc f b (e.at c) (d+1)).1).Ac.l:=by rw[Ej];grind
   let⟨Z,xb,V,X⟩:=aj J (a:=c) (b:=d+1) xa (by rw[HE r,xc.An];omega) (f Q)
   rw[HE r,LX]at V;rw[HE r]at xb;refine⟨(),Z,?_,by rw[Xi S];grind,λa x=>(X a x).t (P a x)⟩;rw[D_.2.2.2.1,Xi S];simp only[QY,Y,D_.2.2.2.2.1,LR,D_.2.2.2.2.2.1,H (Bh (a:=d+1) (by omega)), *])
  (b:=()) (a:=h) ⟨by rw[Xj R,LY r];grind,λ_ _=>B⟩
 rw[show b.l-1+1=b.l by omega]at j G;rw[Xj R]at j;have E:=U.Ar λa x o=>⟨M a (.j o),G.C4 (.j o)⟩;have T:=Cp E;rw[Ad9]at T;have xf:=CA b.l;refine⟨g,?_,G,M⟩;have j:jj W9 117 17 [u,.n 1,p,.p t.x 0,.n c,q,.b Aa] h=_:=j;rw[j,D_.2.2.2.1];simp only[QY, *]
end
def F3(b:D->N)(d:D)(c:BA)(f:AK):D->AK×Ah×K
 |0=>(f,Aa,0)
 |a+1=>if(b a).Ak=0 then F3 b d c f a else((CZ (F3 b d c f a).1 d a (b a) c).1,(CZ (F3 b d c f a).1 d a (b a) c).2.1||(F3 b d c f a).2.1,if(CZ (F3 b d c f a).1 d a (b a) c).2.2≠0 then 6 else(F3 b d c f a).2.2)
theorem R9(b:D->N)(d:D)(c:BA)(f:AK)(a:D):F3 b d c f (a+1)=if(b a).Ak=0 then F3 b d c f a else((CZ (F3 b d c f a).1 d a (b a) c).1,(CZ (F3 b d c f a).1 d a (b a) c).2.1||(F3 b d c f a).2.1,if(CZ (F3 b d c f a).1 d a (b a) c).2.2≠0 then 6 else(F3 b d c f a).2.2):=rfl
theorem lA{a:AK}{c d:D}{f:N}{b:BA}(h:(CZ a c d f b).2.2≠0):(CZ a c d f b).2.2=6:=by unfold CZ at*;grind
theorem YO(b:D->N)(d:D)(c:BA)(f:AK):∀a,((Ce b d c f a).2.2=0->F3 b d c f a=Ce b d c f a)/\((Ce b d c f a).2.2≠0->(Ce b d c f a).2.2=6/\(F3 b d c f a).2.2=6)
 |0=>⟨λ_=>B,λh=>BF B h⟩
 |a+1=>by
  let⟨k,l⟩:=YO b d c f a
  rw[YR,R9];by_cases i:(Ce b d c f a).2.2=0
  .by_cases j:(b a).Ak=0;.grind
   .rw[Ad (by grind),Ad j,(k i)];by_cases g:(CZ (Ce b d c f a).1 d a (b a) c).2.2=0;.grind
    .rw[Af g,Af g];exact⟨P,λ_=>⟨lA g,B⟩⟩
  grind
theorem Wp(f:D->N)(d:D)(c:BA)(a:AK):∀b,DQ a (F3 f d c a b).1/\(F3 f d c a b).1.next=a.next
 |0=>⟨DQ.refl a,B⟩
 |b+1=>by
  have g:=Wp f d c a b;rw[R9];split;.grind
  .have:=YS (F3 f d c a b).1 d b (f b) c;exact⟨g.1.AI this.1,this.2.t g.2⟩
theorem DP.F3{e:Ai}{i c:D}{b:AK}{g:BA}(l:DP e i b)(k:RS e i c g){j:D->N}(q:∀a,B5 e.Am.l (j a)){f:D}(o:∀a,a<f->G6 b.AG c a)(p:∀a,a<f->G6 b.A4 c a):∀d,d<=f->DP e i (F3 j c g b d).1
 |0,_=>l
 |d+1,s=>by
  have r:=DP.F3 l k q o p d (by omega);have m:=(Wp j c g b d).1;rw[R9];split;.grind
  .rename_i n;exact r.M8 k P n (Of m.AG P) (Of m.A4 P)
section
variable{t:EC} {h:G} {e:Ai} {v:C (C (C K))} {w:K} {u:T->Prop}
theorem rn(M:BD t.l)(y:BY t.l e)(r:Bj t h e v w u){c:T}(xF:u c){U V X:F}{a:D}(N:h.M c=A (.I 7 (Ks (e.at a) U V X)))(q:a<e.Ac.l)(f:(e.at a).AP≠-1){I:D}{z:Ab}(g:Dw t.l I z (e.at a)):∃p d,jj W9 117 20 [.p c 0,.p t.x 0,.n a] h=jj W9 117 16 [.p c 0,.p t.x 0,.n a,.p d 0,.b (Cj t.l e a).2] p/\Bj t p (Cj t.l e a).1 v w (λb=>u b\/b=d)/\p.M d=A (.I 5 (Ab.c z))/\Bo u h p:=by
 let⟨b,R,xh,m,i,o,xq⟩:=y.up q f
 let⟨S,j⟩:=i.GZ
 have W:=M.Bc S xh j.hb;have x:=W.Ax R m i.hn;have xG:=x.some M;let⟨xg,k,xK,xk,xL,xM,xN⟩:=x.call i.op
 have xj:k=z:=by
  have xO:=i.CH;have:xg=I:=by have:=g.ha;omega
  subst this;exact Aew (xk.s.t g.hb)
 subst xj;have xE:=g.An;let⟨d,l,xr,xp,J,xm,xT,xU⟩:=box h (.I 5 (Ab.c k))
 let⟨xD,xA⟩:=EL h (b:=5) [.s [],.n 0,.sn,.sn,.sn] (c:=Ab.c k) xr xp B B
 have xR:∀b,u b->Lv h b:=λb f=>r.C4 f;have xa:=r;let⟨xW,xJ,xf,xQ⟩:=xa
 have xC:h.Ap t.x 0=A (Z Ab.c t.l):=Ay xf.M 0;have xw:h.Ap c 0=A (.n I):=by rw[Ay N];show A (F.n (e.at a).Bc)=_;rw[g.ha]
 have xu:A9 5 h [.pi (Ab.c k)]=A (.S (Ab.c k)):=B;have G:=(J.M P).t N;have xx:l.Ap c 1=A (.n b):=by rw[Ay G];show A (F.n (e.at a).AP)=_;rw[o.2.1]
 have xy:l.Ap c 2=A (.n R):=by rw[Ay G];show A (F.n (e.at a).Ax)=_;rw[o.2.2]
 have xz:l.Ap c 3=A (.n (e.at a).Az):=Ay G 3;have s:Bj t l e v w (λb=>u b\/b=d):=(r.V J).sub P;have xX:=y.W.sh.Az a _ (Di q);by_cases xi:(e.at a).Az=0
 .have E:Cj t.l e a=(e.AJ a (Dc (Bs (e.at b)) m.A3 (e.at a) m.A3.l).1,(Dc (Bs (e.at b)) m.A3 (e.at a) m.A3.l).2):=by
   unfold Cj
   simp only[o.2.1,o.2.2,AdR]
   rw[Ad (by omega)]
   unfold QF
   rw[j.Ca,i.hn,Aeg]
  rw[E]
  have xb:=s
  let⟨xV,xI,xe,xP⟩:=xb
  let⟨xB,xn,xs,xv,Y,xl⟩:=Xe xe xq ⟨⟨S,j.ha,j.hb⟩,i.hn⟩ (j.CQ x.A3) (by omega)
  have xc:Bj t xn e v w (λb=>(u b\/b=d)\/¬As xB b):=(s.V Y).sub λb f=>by
   rcases f with f|f;.grind
   .exact .j ⟨λxt=>f (xl b xt),P⟩
  let⟨xo,xS,xd,xH⟩:=tT xc q xv (by omega) (by omega) (by omega) (y.W.p0 a q) (.p c 0) (.p d 0)
  refine⟨xo,d,?_,xd.sub P,P,P⟩
  rw[D_.2.1]
  simp only[↓xD,↓Q,↓QT,↓H xC,↓H xw,↓H (CB g.hb),↓H xu,↓H xA,↓H xz,xi,↓H xx,↓H xy,↓H xs]
  grind
 .have E:Cj t.l e a=(e,Aa):=by
   unfold Cj
   grind
  rw[E]
  refine⟨l,d,?_,s,xm,P⟩
  rw[D_.2.1]
  simp only[QZ,H (CB g.hb), *]
abbrev bX(t:EC)(e:Ai)(a b d c:D):=F3 (Fx t.l (e.at a)) b ⟨(e.at a).Az,Aa,L⟩ (e.at d) c
theorem tW(xr:BD t.l)(E:BY t.l e)(xG:Bj t h e v 0 u)(xH:CJ e v){j:T}(R:u j){a:D}(xQ:a<e.Ac.l){b d:D}(xm:CW e a b d)(q:b<e.Ac.l)(xR:b<a){xb:D}{f:Ab}(z:Dw t.l xb f (e.at a))(Y:h.M j=A (.I 5 (Ab.c f)))(xf:RS e b d ⟨(e.at a).Az,Aa,L⟩)(xc:∀k,k<f.Bk.l->G6 (e.at b).AG d k)(xd:∀k,k<f.Bk.l->G6 (e.at b).A4 d k)(p:F)(r:Ah):
  ∃g l,jj W9 117 13 [.n 0,p,.p t.x 0,.n a,.p j 0,.b r] h=jj W9 117 12 [p,.p t.x 0,.n a,.p j 0,.b ((bX t e a d b f.Bk.l).2.1||r)] g/\
   Bj t g (e.AJ b (bX t e a d b f.Bk.l).1) l (bX t e a d b f.Bk.l).2.2 u/\CJ (e.AJ b (bX t e a d b f.Bk.l).1) l/\Bo u h g:=by
 have Q:=xr.Bc xb f z.hb
 have xP:=Q.Bk
 have xF:∀k,B5 e.Am.l (Fx t.l (e.at a) k):=λk=>by
  unfold Fx;split;.exact E.W.Bs a _
  .exact It _
 have xq:=λc m=>(DP.refl E.W q).F3 xf xF (f:=f.Bk.l) xc xd c m
 let⟨_,g,x,l,xh,xo,V⟩:=Dh (h:=f.Bk.l) (f:=λc _ h=>jj W9 117 13 [.n c,p,.p t.x 0,.n a,.p j 0,.b ((bX t e a d b c).2.1||r)] h)
  (g:=λc _ g=>∃l,Bj t g (e.AJ b (bX t e a d b c).1) l (bX t e a d b c).2.2 u/\CJ (e.AJ b (bX t e a d b c).1) l/\Bo u h g)
  (λc _ xM m xl=>by
   let⟨xA,S,xp,xt⟩:=xl
   have U:=xq c (by omega);have xu:=E.AJ U;let⟨M,y⟩:=Bb m
   have xx:Fx t.l (e.at a) c=Bs (e.at a) M:=by unfold Fx;rw[z.Ca,y]
   let⟨o,xa⟩:=z.Eo (Q.ex M (AdU y))
   have xy:Fx t.l (e.at a) c=o:=xx.t (OP xa);have xD:a<(e.AJ b (bX t e a d b c).1).Ac.l:=by rw[Ej];grind
   have W:(e.AJ b (bX t e a d b c).1).at a=e.at a:=R7 q Om;have G:(e.AJ b (bX t e a d b c).1).at b=(bX t e a d b c).1:=HE q;have xB:=(xt j R).t Y;have xK:=Cm m;have xw:=xB;have xk:=S;let⟨xT,xJ,xv,xO⟩:=xk
   obtain⟨xN,xS,xg⟩:=UC xv xD M (by rw[W];exact xa);have xi:=S.ext xg;have xe:=(Wp (Fx t.l (e.at a)) d ⟨(e.at a).Az,Aa,L⟩ (e.at b) c).1;have xn:=U.Hf.2 xm;obtain⟨xC,Z⟩:=pj xi xp xu xn P (by rw[G];exact Of xe.AG (xc c m)) (by rw[G];exact Of xe.A4 (xd c m)) o;rw[W,G,LX]at Z;by_cases X:o.Ak=0
   .let⟨N,xE,xj,xs⟩:=xC X
    have J:bX t e a d b (c+1)=bX t e a d b c:=by unfold bX;rw[R9,Af (by grind)]
    refine⟨(),N,?_,xA,by grind,by grind,P⟩;rw[D_.2.2.2.2.2.2.2.1,J];simp only[QY,D_.2.2.2.2.2.2.2.2.1,H (IE y),D_.2.2.2.2.2.2.2.2.2.1,H (Bh (a:=c) (by omega)), *]
   .let⟨N,xz,xE,xj,xI,xs⟩:=Z X
    have J:bX t e a d b (c+1)=((CZ (bX t e a d b c).1 d c o ⟨(e.at a).Az,Aa,L⟩).1,(CZ (bX t e a d b c).1 d c o ⟨(e.at a).Az,Aa,L⟩).2.1||(bX t e a d b c).2.1,if(CZ (bX t e a d b c).1 d c o ⟨(e.at a).Az,Aa,L⟩).2.2≠0 then 6 else(bX t e a d b c).2.2):=by unfold bX;rw[R9,Ad (by grind),xy]
    refine⟨(),N,?_,xz,by grind,by grind,P⟩;rw[D_.2.2.2.2.2.2.2.1,J];simp only[QY,D_.2.2.2.2.2.2.2.2.1,H (IE y),LR,AfF,D_.2.2.2.2.2.2.2.2.2.1,H (Bh (a:=c) (by omega)), *])
  (b:=()) (a:=h) ⟨v,by show Bj t h (e.AJ b (e.at b)) v 0 u;rw[LY q];grind,by show CJ (e.AJ b (e.at b)) v;rw[LY q];grind,P⟩
 have x:jj W9 117 13 [.n 0,p,.p t.x 0,.n a,.p j 0,.b (Aa||r)] h=jj W9 117 13 [.n f.Bk.l,p,.p t.x 0,.n a,.p j 0,.b ((bX t e a d b f.Bk.l).2.1||r)] g:=x
 rw[Ae6]at x
 have xL:=CA f.Bk.l
 have xw:=(V j R).t Y
 refine⟨g,l,?_,xh,xo,V⟩
 rw[x,D_.2.2.2.2.2.2.2.1]
 simp only[QY, *]
end
abbrev bF(f:N)(e:Ai)(a b d c:D):=F3 (λ_=>f) b ⟨(e.at a).Az,L,L⟩ (e.at d) c
section
variable{t:EC} {h:G} {e:Ai} {v:C (C (C K))} {r:K} {u:T->Prop}
theorem tU(xm:BD t.l)(U:BY t.l e)(xw:Bj t h e v 0 u)(xx:CJ e v){k m:T}(M:u k)(xd:u m){b:D}(xE:b<e.Ac.l){a d:D}(xi:CW e b a d)(z:a<e.Ac.l)(xF:a<b){X:D}{g:Ab}(xc:Dw t.l X g (e.at b))(W:h.M k=A (.I 5 (Ab.c g))){c:N}(xq:h.M m=A (.I 2 (N.c c)))(xt:c.Ak≠0)(xu:B5 e.Am.l c)(xb:RS e a d ⟨(e.at b).Az,L,L⟩)(Y:∀x,x<g.Bk.l->G6 (e.at a).AG d x)(Z:∀x,x<g.Bk.l->G6 (e.at a).A4 d x)(w:F)(E:Ah):
  ∃j o,jj W9 117 8 [.n 0,.p m 0,w,.p t.x 0,.n b,.p k 0,.b E] h=jj W9 117 7 [.p m 0,w,.p t.x 0,.n b,.p k 0,.b ((bF c e b d a g.Bk.l).2.1||E)] j/\
   Bj t j (e.AJ a (bF c e b d a g.Bk.l).1) o (bF c e b d a g.Bk.l).2.2 u/\CJ (e.AJ a (bF c e b d a g.Bk.l).1) o/\Bo u h j:=by
 have xD:=(xm.Bc X g xc.hb).Bk
 let⟨_,j,J,o,xe,xj,R⟩:=Dh (h:=g.Bk.l) (f:=λf _ h=>jj W9 117 8 [.n f,.p m 0,w,.p t.x 0,.n b,.p k 0,.b ((bF c e b d a f).2.1||E)] h)
  (g:=λf _ j=>∃o,Bj t j (e.AJ a (bF c e b d a f).1) o (bF c e b d a f).2.2 u/\CJ (e.AJ a (bF c e b d a f).1) o/\Bo u h j)
  (λf _ xC y xh=>by
   let⟨xB,xg,xl,S⟩:=xh
   have Q:=(λf y=>(DP.refl U.W z).F3 xb (j:=λ_=>c) (λ_=>xu) (f:=g.Bk.l) Y Z f y) f (by omega);have xs:a<(e.AJ a (bF c e b d a f).1).Ac.l:=by rw[Ej];grind
   have V:(e.AJ a (bF c e b d a f).1).at b=e.at b:=R7 z Om;have G:(e.AJ a (bF c e b d a f).1).at a=(bF c e b d a f).1:=HE z;have xz:=Cm y;have xn:=(S k M).t W;have xG:=(S m xd).t xq;have xa:=(Wp (λ_=>c) d ⟨(e.at b).Az,L,L⟩ (e.at a) f).1;obtain⟨xr,xp,xv,xf,xk,xy⟩:=pk xg xl (U.AJ Q) (Q.Hf.2 xi) xs (by rw[G];exact Of xa.AG (Y f y)) (by rw[G];exact Of xa.A4 (Z f y)) c;rw[V,G]at xv;rw[V,G,LX]at xf xk;have xo:bF c e b d a (f+1)=((CZ (bF c e b d a f).1 d f c ⟨(e.at b).Az,L,L⟩).1,(CZ (bF c e b d a f).1 d f c ⟨(e.at b).Az,L,L⟩).2.1||(bF c e b d a f).2.1,if(CZ (bF c e b d a f).1 d f c ⟨(e.at b).Az,L,L⟩).2.2≠0 then 6 else(bF c e b d a f).2.2):=by unfold bF;rw[R9,Ad xt]
   refine⟨(),xr,?_,xp,by grind,by grind,P⟩;rw[D_.2.2.2.2.2.2.2.2.2.2.2.2.1,xo];simp only[QY,D_.2.2.2.2.2.2.2.2.2.2.2.2.2.1,LR,AfF,D_.2.2.2.2.2.2.2.2.2.2.2.2.2.2.1,H (Bh (a:=f) (by omega)), *])
  (b:=()) (a:=h) ⟨v,by show Bj t h (e.AJ a (e.at a)) v 0 u;rw[LY z];grind,by show CJ (e.AJ a (e.at a)) v;rw[LY z];grind,P⟩
 have J:jj W9 117 8 [.n 0,.p m 0,w,.p t.x 0,.n b,.p k 0,.b (Aa||E)] h=jj W9 117 8 [.n g.Bk.l,.p m 0,w,.p t.x 0,.n b,.p k 0,.b ((bF c e b d a g.Bk.l).2.1||E)] j:=J
 rw[Ae6]at J
 have xA:=CA g.Bk.l
 have xn:=(R k M).t W
 refine⟨j,o,?_,xe,xj,R⟩
 rw[J,D_.2.2.2.2.2.2.2.2.2.2.2.2.1]
 simp only[QY, *]
theorem tV(xa:BD t.l)(xj:Bj t h e v r u){g:T}(G:u g){c a:D}(xr:c<e.Ac.l)(k:a<e.Ac.l)(xg:c≠a){V:D}{b:Ab}(E:Dw t.l V b (e.at c))(R:h.M g=A (.I 5 (Ab.c b)))(xn:1<=b.A_.l)(xt:b.A_.l<=(e.at a).An.l)(S:(GQ (e.at a) 0).Ak≠0)(o:Ah):∃f,jj W9 117 2 [.n a,.p t.x 0,.n c,.p g 0,.n 1,.b o] h=A (.b ((Dc (Bs (e.at c)) b.A_ (e.at a) b.A_.l).2||o),f)/\Bj t f (e.AJ a (Dc (Bs (e.at c)) b.A_ (e.at a) b.A_.l).1) v r u/\Bo u h f:=by
 have z:=xa.Bc V b E.hb;have xu:=z.A_;let⟨⟨⟩,f,j,J,N⟩:=Dh (h:=b.A_.l-1) (f:=λd _ h=>jj W9 117 2 [.n a,.p t.x 0,.n c,.p g 0,.n (d+1:D),.b ((Dc (Bs (e.at c)) b.A_ (e.at a) (d+1)).2||o)] h) (g:=λd _ f=>Bj t f (e.AJ a (Dc (Bs (e.at c)) b.A_ (e.at a) (d+1)).1) v r u/\Bo u h f)
  (λd _ xo xs Z=>by
   let⟨M,xb⟩:=Z
   let⟨w,y⟩:=Bb (b:=b.A_) (a:=d+1) (by omega)
   have xl:(d+1:D)<(b.A_.l:K):=by omega
   let⟨W,U⟩:=E.Eo (z.nx w P)
   have Q:Bs (e.at c) w=W:=OP U;have xf:c<(e.AJ a (Dc (Bs (e.at c)) b.A_ (e.at a) (d+1)).1).Ac.l:=by rw[Ej];grind
   have xh:a<(e.AJ a (Dc (Bs (e.at c)) b.A_ (e.at a) (d+1)).1).Ac.l:=by rw[Ej];grind
   have xd:=(xb g G).t R;let⟨p,q,xc,xq⟩:=M
   obtain⟨xp,xv,X⟩:=UC xc xf w (by rw[(R7 k xg:(e.AJ a (Dc (Bs (e.at c)) b.A_ (e.at a) (d+1)).1).at c=e.at c)];exact U);let⟨xe,xi,Y,xk⟩:=aj (M.ext X) (a:=a) (b:=d+1) xh (by rw[HE k,(ME (Bs (e.at c)) b.A_ (e.at a) (d+1)).1.An];omega) W
   rw[HE k,LX]at Y;rw[HE k]at xi;refine⟨(),xe,?_,by rw[Xi y,Q];omega,P⟩;rw[D_.2.2.2.2.2.2.2.2.2.2.2.2.2.2.2.2.2.2.1,Xi y,Q];simp only[QY,D_.2.2.2.2.2.2.2.2.2.2.2.2.2.2.2.2.2.2.2.1,H (IE y),LR,AfF,D_.2.2.2.2.2.2.2.2.2.2.2.2.2.2.2.2.2.2.2.2,H (Bh (a:=d+1) (by omega)), *])
  (b:=()) (a:=h) ⟨by rw[Xj S,LY k];grind,P⟩
 rw[show b.A_.l-1+1=b.A_.l by omega]at j J;rw[Xj S,Ae6]at j;have j:jj W9 117 2 [.n a,.p t.x 0,.n c,.p g 0,.n 1,.b o] h=_:=j;have xm:=CA b.A_.l;have xd:=(N g G).t R;refine⟨f,?_,J,N⟩;rw[j,D_.2.2.2.2.2.2.2.2.2.2.2.2.2.2.2.2.2.2.1];simp only[QY,D_.2.2.2.2.2.2.2.2.2.2.2.2.2.2.2.2.2.1, *]
end
section
variable{p:T->Bm} {h:G} {l:C Ab} {x:T} {e:Ai} {v:C (C (C K))} {r:K} {q:Bm->F}
theorem BZ.Vl(g:BZ p h l x e v r q){a:D}(d:a<e.Ac.l):∃b,AR 1 [q .Am,.n a]=A (.p b (a*1))/\AM h [.p b (a*1)]=A (.b (!Ao ((e.at a).next= -1))):=by
 let⟨b,c⟩:=CD (f:=GO) (w:=1) (λ_=>B) (g.Db .Am) (Di d)
 exact⟨b,c.ia,by exact(c.Ap (f:=GO) (w:=1) (λ_=>B) (Di d) (b:=0) (by omega))⟩
theorem BZ.w9(g:BZ p h l x e v r q){a:D}(k:a<e.Ac.l){b:K}(E:b≠-1):∃d j,AR 1 [q .Am,.n a]=A (.p d (a*1))/\AX 1 h [.p d (a*1),.b L]=A (AC,j)/\BZ p j l x (e.AJ a {e.at a with next:=b}) v r q/\EM p h j .Am:=by
 have o:=g.Db .Am;have n:GO {e.at a with next:=b}=[.b L]:=by unfold GO;rw[A2 (show¬(({e.at a with next:=b}:AK).next= -1)from E)];rfl
 let⟨d,i⟩:=CD (f:=GO) (w:=1) (λ_=>B) o (Di k)
 let⟨s,G⟩:=i.set (f:=GO) (w:=1) (λ_=>B) o (Di k) (c:={e.at a with next:=b}) (g:=.b L) (by rw[n];rfl) (by rw[n];rfl)
 have m:=Vt (h:=h) (c:=.I (e.Ac.l*1) ((e.Ac.set a {e.at a with next:=b}).f GO)) (g.tg .Am (by grind) d i.nb).2;refine⟨d,_,i.ia,s,g.Ep m P (by grind) B B B G λI H F=>Ym (b:={e.at a with next:=b}) k ⟨B,B,B,B,B,B,B,B⟩ F P P P P,m⟩
end
