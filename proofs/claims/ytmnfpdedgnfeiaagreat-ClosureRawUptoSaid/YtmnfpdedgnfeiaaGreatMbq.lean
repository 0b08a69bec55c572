/- Part of the proof. -/
import Derived.Test.YtmnfpdedgnfeiaaGreatMbp
set_option linter.all false
noncomputable section
open Option renaming some->A,bind->Option.b
open _root_ renaming rfl->B,List->C,Nat->D,Int->K,if_neg->Ad,if_pos->Af,Bool->Ak,absurd->A_,decide_eq_false->Ba,decide_eq_true->Be
open Bool renaming true->L,false->Ac
open Decidable renaming decide->Au
open List renaming replicate->Bv,length->List.l,map->List.m,take->List.t,drop->List.d,flatMap->List.f
open Go.IntKind renaming i64->Go.IntKind.n
open Array renaming toList->Array.l
open Eq renaming trans->Eq.t,symm->Eq.s
open Or renaming inl->Or.i,inr->Or.j
open Int renaming toNat->Int.n
namespace Go.Proofs.YtmnfpdedgnfeiaaGreat
open Go.Fg
def IR(a:C Ab)(c:C AD):C (C K):=c.m λb=>Bv (C_ a b).n 0
def KQ(c:C Ab)(a:Ab)(b f d g:K)(i:M):AP:={Dl c a b f d g with Ap:=(Bv a.Ap.n AK).set 0 i}
def Ok(b:C Ab)(a:Ab)(c i g j:K)(k:M)(d:D):AP:={KQ b a c i g j k with AB:=(a.Ay.t d).m λf=>Bv (C_ b f).n AK}
theorem Abu(c:C _)(a:Ab)(b f d g:K)(i:M):Ok c a b f d g i a.Ay.l=KQ c a b f d g i:=by unfold Ok;rw[AiX Om];rfl
section
variable{t:Fu} {h:G} {e:Ah} {v:C (C (C K))} {r:K} {u:Aa->Prop}
theorem Aap(W:Bj t.l){d:G}{xM:d.AA t.x 0=A (Z Ab.c t.l)}(xq:∃xh,d.N t.x=A (.I 8 (Z Ab.c t.l::xh))/\Lv d t.x){xb c:D}{a:Ab}(xo:t.l[c]? =A a){k j l:K}{o:M}{x f:Aa}(xe:d.N x=A (.I 5 (Ab.c a)))(xg:Lv d x){h:G}{P:Aa->Bz}{w q:F}{E y:D->F}{N V:F}(p:MJ d xb P h f (Ok t.l a c k j l o 0) [] w N q V E y):∃R T Q xd xc Y J z,jj W9 86 2 [.p x 0,.n 0,.p f 0,V,.p t.x 0] h=jj W9 86 1 [.p f 0,R,.p t.x 0] T/\MJ d xb Q T f (KQ t.l a c k j l o) (IR t.l a.Ay) xd xc Y R J z:=by
 have xz:=(W.A4 c a xo).Ay;let⟨xh,xm,xp⟩:=xq
 let⟨R,T,X,Q,xd,xc,Y,J,z,S⟩:=Ez (h:=a.Ay.l) (f:=λb U h=>jj W9 86 2 [.p x 0,.n b,.p f 0,U,.p t.x 0] h) (g:=λb U h=>∃P w N q E y,MJ d xb P h f (Ok t.l a c k j l o b) (IR t.l (a.Ay.t b)) w N q U E y)
  (λb U h xf xi=>by
   let⟨P,w,N,q,E,y,p⟩:=xi
   let⟨g,xa⟩:=Bo xf
   have xv:=Dx xf;have xC:=SK W g;have xj:=((p.ext.N xg).t xe);have xL:=(p.ext.N xp).t xm;have xH:=p.N;have xA:(Ok t.l a c k j l o b).AB.l<=b:=by show(List.map _ (a.Ay.t b)).l<=b;grind
   have xB:(IR t.l (a.Ay.t b)).l<=b:=by unfold IR;grind
   let⟨xu,xJ,xr,xx,xy,xk,xD,xI,xt,xK,xs,xn,Q,J,z,xl,xE,S⟩:=p.Ao (j:=(C_ t.l g).n) (by omega) (by omega) (by omega)
   rw[show(C_ t.l g).n=C_ t.l g by omega]at xk xl;refine⟨xs,xn,?_,Q,w,xr,q,J,z,?_⟩;.rw[Qy.2.2.2.1];simp only[QY,Qy.2.2.2.2.1,H (Gq xa),(iJ t.l g (by have:=W.AX;omega)).H B,Qy.2.2.2.2.2,H (BF (a:=b) (by omega)), *]
   .have xF:Ok t.l a c k j l o (b+1)={Ok t.l a c k j l o b with AB:=(Ok t.l a c k j l o b).AB++[Bv (C_ t.l g).n AK]}:=by
     unfold Ok
     rw[<-Gv xa,AiZ];rfl
    have xG:IR t.l (a.Ay.t (b+1))=IR t.l (a.Ay.t b)++[Bv (C_ t.l g).n 0]:=by unfold IR;rw[<-Gv xa,AiZ];rfl
    grind)
  (b:=V) (a:=h) ⟨P,w,N,q,E,y,p⟩
 have X:jj W9 86 2 [.p x 0,.n 0,.p f 0,V,.p t.x 0] h=jj W9 86 2 [.p x 0,.n a.Ay.l,.p f 0,R,.p t.x 0] T:=X;rw[Abu,HV]at S;have xw:=Dz a.Ay.l;have xj:=(S.ext.N xg).t xe;refine⟨R,_,Q,xd,xc,Y,J,z,?_,S⟩;rw[X,Qy.2.2.2.1];simp only[QY, *]
open Classical in
theorem cl (xk:Bj t.l) (xi:Bx t h e v r u) (xT:v.l=e.T.l) (x0:e.T.l<=400) {j:D} {a:Ab} (xa:t.l[j]? =A a) (p o s:K) (d:M):(e.T.l=400->∃E,W9 (Ar 86) [.p t.x 0,.n j,.n p,.n o,.n s,.S (M.c d)] h=A (.n (-1),E)/\Bx t E e v 5 u/\BD u h E)/\(e.T.l≠400->∃E,W9 (Ar 86) [.p t.x 0,.n j,.n p,.n o,.n s,.S (M.c d)] h=A (.n e.T.l,E)/\Bx t E ⟨e.T++[KQ t.l a j p o s d],e.Ae,e.round,e.Aq⟩ (v++[IR t.l a.Ay]) r u/\BD u h E):=by
 have xe:=xk.A4 j a xa;have yu:=xe.Ay;have yv:=xe.Ap;let⟨yc,J,x5,xU,xD,yr,yA,yC⟩:=box h (.I 2 (M.c d))
 have xC:=K2 h d x5 xU;have yw:∀b,u b->Lv h b:=λb G=>xi.Dy G;have xj:=xi.V xD;have xE:=xj;let⟨yd,xK,x,xS⟩:=xj
 have xz:=x.cv;have xb:=C4 (x.D8 .T);rw[Aip]at xb;constructor
 .intro xO;let⟨c,yh,xL,xJ⟩:=x.S1 5
  let⟨yo,yp⟩:=xJ.FQ (by grind) xS
  refine⟨c,Bd B B ?_,⟨yd,xK,xL,P⟩,P⟩;have V:(e.T.l:K)=400:=by omega
  rw[Qy.1];simp only[↓xC,↓Q,↓QT,↓H (Fp t.x),↓H xz,↓H xb,V,↓H yh]
 .intro xO;let⟨xx,c,x6,xV,S,X,xs,yD⟩:=box J (.I 5 (Ab.c a))
  let⟨yk,yf⟩:=F0 J (b:=5) [.s [],.n 0,.sn,.sn,.sn] (c:=Ab.c a) x6 xV B B
  have xF:=xE.V S;have yj:J.AA _ 0=A (Z Ab.c t.l):=AJ x.N 0;have x8:Bf 5 J [.pi (Ab.c a)]=A (.S (Ab.c a)):=B;have xM:c.AA xx 1=A (.n a.Ap):=AJ X 1;have W:=UB c.next a.Ap.n (by omega);rw[show a.Ap.n=a.Ap by omega]at W;have xc:=UL c a.Ap.n;have T:AR c (c.V (.I (a.Ap.n*2) ((Bv a.Ap.n AK).f M.c))):=AR.V _ _;have xq:Lv (c.V (.I (a.Ap.n*2) ((Bv a.Ap.n AK).f M.c))) c.next:=GD _ _;have ya:=FO c;generalize x4:c.next=R at W xc xq ya;generalize xW:c.V (.I (a.Ap.n*2) ((Bv a.Ap.n AK).f M.c))=k at xc T xq;have xN:k.AA xx 2=A (Z AD.c a.Ay):=AJ ((T.N xs).t X) 2;have xl:=du k.next a.Ay.l (by omega);have xd:=dU k a.Ay.l;have xg:AR k (k.V (.I (a.Ay.l*1) ((Bv a.Ay.l 0).f Bq))):=AR.V _ _;have xr:Lv (k.V (.I (a.Ay.l*1) ((Bv a.Ay.l 0).f Bq))) k.next:=P;have yb:=FO k;generalize x3:k.next=q at xl xd xr yb;generalize xX:k.V (.I (a.Ay.l*1) ((Bv a.Ay.l 0).f Bq))=xn at xd xg xr;let⟨I,F,xo,xY,xh,xm,yB,yE⟩:=box xn (.I 7 [.n j,.n p,.n o,.n s,.Z R 0 a.Ap.n (a.Ap.n+1) 2,.sn,.Z q 0 a.Ay.l (a.Ay.l+1) 1])
  let⟨yN,yg⟩:=F0 xn (b:=7) [.n 0,.n 0,.n 0,.n 0,.sn,.sn,.sn] (c:=[.n j,.n p,.n o,.n s,.Z R 0 a.Ap.n (a.Ap.n+1) 2,.sn,.Z q 0 a.Ay.l (a.Ay.l+1) 1]) xo xY B B
  have xP:BE [.n 0,.n 0,.n 0,.n 0,.sn,.sn,.sn] [(0,1),(1,1),(2,1),(3,1),(4,1),(6,1)] [.n j,.n p,.n o,.n s,.Z R 0 a.Ap.n (a.Ap.n+1) 2,.Z q 0 a.Ay.l (a.Ay.l+1) 1]=A (.S [.n j,.n p,.n o,.n s,.Z R 0 a.Ap.n (a.Ap.n+1) 2,.sn,.Z q 0 a.Ay.l (a.Ay.l+1) 1]):=B;have xf:=xg.AQ xh;have yl:=T.AQ xf;have xu:=xc.ext xf;let⟨yM,xp⟩:=Bo (b:=Bv a.Ap.n AK) (a:=0) (by rw[AjD];omega)
  let⟨g,U⟩:=Dm (f:=M.c) (w:=2) (λ_=>B) xu xp
  have x2:=OT _ U.nb;subst x2;let⟨xA,xv⟩:=U.set (f:=M.c) (w:=2) (λ_=>B) xu xp (c:=d) (g:=.S (M.c d)) B B
  have x7:AZ 2 [.Z g 0 a.Ap.n (a.Ap.n+1) 2,.n 0]=A (.p g (0*2)):=U.ia;have xw:∀b,b≠g->(F.set g (.I ((Bv a.Ap.n AK).l*2) (((Bv a.Ap.n AK).set 0 d).f M.c))).N b=F.N b:=λb G=>by rw[AY,Ad G]
  have x9:∀b,Lv (F.set g (.I ((Bv a.Ap.n AK).l*2) (((Bv a.Ap.n AK).set 0 d).f M.c))) b=Lv F b:=P;generalize F.set g (.I ((Bv a.Ap.n AK).l*2) (((Bv a.Ap.n AK).set 0 d).f M.c))=Y at xA xv xw x9;have yH:q≠g:=P;have xy:I≠g:=P;have yJ:I≠q:=P;have ye:F.AU yc 0 2=A (M.c d):=B2 P;have yi:F.AA I 4=A (.Z g 0 a.Ap.n (a.Ap.n+1) 2):=AJ xm 4;have xH:MJ c e.T.l (λb=>if b=g then .Ap e.T.l else if b=q then .AI e.T.l else if b=I then .Bw e.T.l else .DK) Y I (Ok t.l a j p o s d 0) [] (.Z g 0 a.Ap.n (a.Ap.n+1) 2) .sn (.Z q 0 a.Ay.l (a.Ay.l+1) 1) .sn (λ_=>.sn) (λ_=>.sn):={
   N:=(xw I xy).t xm
   lv:=by grind
   Ci:=(Ad xy).t P
   Ap:=xv
   FS:=λb m=>by have:=OT _ m;grind
   AB:=⟨AF.sn Y,λb m=>A_ (CM b) m,λyx yz xZ=>by cases xZ⟩
   AI:=(xd.ext xh).Av λb G m=>by have:=OT _ m;grind
   FR:=λb m=>by have:=OT _ m;grind
   K_:=⟨AF.sn Y,λb m=>A_ (CM b) m,P⟩
   BX:=λb G=>P
   ext:=λb G=>⟨P,by grind⟩}
  have xt:∃xB,c.N t.x=A (.I 8 (Z Ab.c t.l::xB))/\Lv c t.x:=⟨_,(S.N x.lv).t x.N,S.lv x.lv⟩;let⟨yL,yt,yK,yI,yG,yq,yF,ys,yn,xI⟩:=Aap xk (xM:=by let⟨xB,xQ,_⟩:=xt;exact AJ xQ 0) xt xa X xs xH
  let⟨xR,yy,xG,ym⟩:=rh xF xT x0 xI B
  refine⟨xR,Bd B B ?_,xG.sub P,P⟩;have V:¬(e.T.l:K)=400:=by omega
  rw[Qy.1];simp only[↓xC,↓yk,↓Q,↓QT,Aic,↓H (Fp t.x),↓H xz,↓H xb,V,Qy.2.1,↓H yj,↓H (Da xa),↓H x8,↓H yf,↓H xM,x4,↓H W,xW,↓H xN,x3,↓H xl,xX,↓H xP,xo,↓H yg,↓H yi,↓H ye,↓H x7,↓H xA];grind
end
theorem YQ{c:AH->M}{b:C _}{d:AP}{a:D}{f:AH}(g:b[a]? =A f):C2 c b d (a+1)=((ER (C2 c b d a).1 a (c f)).1,(ER (C2 c b d a).1 a (c f)).2||(C2 c b d a).2):=by show(match b[a]?with|some f=>_|none=>_)=_;rw[g]
theorem YS{f:AH->M}{b:C AH}{a:AP}(d:(BQ a 0).Ai≠0):C2 f b a 1=(a,Ac):=by
 show(match b[0]?with|some c=>_|none=>_)=_
 cases h:b[0]?with
 |none=>rfl
 |some c=>show((ER a 0 _).1,(ER a 0 _).2||false)=_;rw[YO (.j d)];rfl
def K6(a:AP)(b c d:F):C F:=[.n a.A4,.n a.AN,.n a.Ao,.n a.As,b,c,d]
theorem QU:(∀(b:AP)(d f g:F),(K6 b d f g)[0]? =A (.n b.A4))/\(∀(b:AP)(d f g:F),(K6 b d f g)[1]? =A (.n b.AN))/\(∀(b:AP)(d f g:F),(K6 b d f g)[2]? =A (.n b.Ao))/\(∀(b:AP)(d f g:F),(K6 b d f g)[3]? =A (.n b.As))/\(∀(b:AP)(d f g:F),(K6 b d f g)[4]? =A (d))/\(∀(b:AP)(d f g:F),(K6 b d f g)[5]? =A (f))/\(∀(b:AP)(d f g:F),(K6 b d f g)[6]? =A (g))/\(∀(c:Bz->F)(e:Ah)(a:D),(E0 c e a)[0]? =A (.n (e.at a).A4))/\(∀(c:Bz->F)(e:Ah)(a:D),(E0 c e a)[1]? =A (.n (e.at a).AN))/\(∀(c:Bz->F)(e:Ah)(a:D),(E0 c e a)[2]? =A (.n (e.at a).Ao))/\(∀(c:Bz->F)(e:Ah)(a:D),(E0 c e a)[3]? =A (.n (e.at a).As))/\(∀(c:Bz->F)(e:Ah)(a:D),(E0 c e a)[4]? =A (c (.Ap a)))/\(∀(c:Bz->F)(e:Ah)(a:D),(E0 c e a)[5]? =A (c (.AB a)))/\(∀(c:Bz->F)(e:Ah)(a:D),(E0 c e a)[6]? =A (c (.AI a))):=⟨λ_ _ _ _=>B,λ_ _ _ _=>B,λ_ _ _ _=>B,λ_ _ _ _=>B,λ_ _ _ _=>B,λ_ _ _ _=>B,λ_ _ _ _=>B,λ_ _ _=>B,λ_ _ _=>B,λ_ _ _=>B,λ_ _ _=>B,λ_ _ _=>B,λ_ _ _=>B,λ_ _ _=>B⟩
def L_:=And.intro QY QU
section
variable{t:Fu} {h:G} {e:Ah} {z:C (C (C K))} {y:K} {w:Aa->Prop} {u:F}
theorem Aav(xd:Bx t h e z y (λa=>w a\/¬AE u a)){c:D}(r:c<e.T.l){b:C AH}{f:AH->M}(U:AF h u M.c 2 (b.m f))(xg:1<=b.l)(xj:b.l<=(e.at c).Ap.l)(xk:b.l<1000000)(R:(BQ (e.at c) 0).Ai≠0)(p q:F):∃g,jj W9 135 17 [u,.n 1,p,.p t.x 0,.n c,q,.b Ac] h=jj W9 135 16 [p,.p t.x 0,.n c,q,.b (C2 f b (e.at c) b.l).2] g/\Bx t g (e.AM c (C2 f b (e.at c) b.l).1) z y (λa=>w a\/¬AE u a)/\BD (λa=>w a\/¬AE u a) h g:=by
 let⟨⟨⟩,g,j,G,N⟩:=Ez (h:=b.l-1) (f:=λd _ h=>jj W9 135 17 [u,.n (d+1:D),p,.p t.x 0,.n c,q,.b (C2 f b (e.at c) (d+1)).2] h) (g:=λd _ g=>Bx t g (e.AM c (C2 f b (e.at c) (d+1)).1) z y (λa=>w a\/¬AE u a)/\BD (λa=>w a\/¬AE u a) h g)
  (λd _ xh xi W=>by
   let⟨J,P⟩:=W
   let⟨Q,S⟩:=Bo (b:=b) (a:=d+1) (by omega)
   have Y:(d+1:D)<((b.m f).l:K):=by grind
   have E:=U.Av λa x o=>⟨P a (.j o),J.Dy (.j o)⟩;have T:=C4 E;let⟨xe,xl,xm⟩:=E.rd (b:=d+1) (i:=f Q) (by grind)
   have xc:=(Ns f b (e.at c) (d+1)).1;have xa:c<(e.AM c (C2 f b (e.at c) (d+1)).1).T.l:=by rw[D0];grind
   let⟨Z,xb,V,X⟩:=cn J (a:=c) (b:=d+1) xa (by rw[Hc r,xc.Ap];omega) (f Q)
   rw[Hc r,MD]at V;rw[Hc r]at xb;refine⟨(),Z,?_,by rw[YQ S];grind,λa x=>(X a x).t (P a x)⟩;rw[EF.2.2.2.1,YQ S];simp only[QY,Y,EF.2.2.2.2.1,MB,EF.2.2.2.2.2.1,H (BF (a:=d+1) (by omega)), *])
  (b:=()) (a:=h) ⟨by rw[YS R,ME r];grind,λ_ _=>B⟩
 rw[show b.l-1+1=b.l by omega]at j G;rw[YS R]at j;have E:=U.Av λa x o=>⟨N a (.j o),G.Dy (.j o)⟩;have T:=C4 E;rw[Aiw]at T;have xf:=Dz b.l;refine⟨g,?_,G,N⟩;have j:jj W9 135 17 [u,.n 1,p,.p t.x 0,.n c,q,.b Ac] h=_:=j;rw[j,EF.2.2.2.1];simp only[QY, *]
end
def GB(b:D->M)(d:D)(c:BC)(f:AP):D->AP×Ak×K
 |0=>(f,Ac,0)
 |a+1=>if(b a).Ai=0 then GB b d c f a else((CE (GB b d c f a).1 d a (b a) c).1,(CE (GB b d c f a).1 d a (b a) c).2.1||(GB b d c f a).2.1,if(CE (GB b d c f a).1 d a (b a) c).2.2≠0 then 6 else(GB b d c f a).2.2)
theorem Tx(b:D->M)(d:D)(c:BC)(f:AP)(a:D):GB b d c f (a+1)=if(b a).Ai=0 then GB b d c f a else((CE (GB b d c f a).1 d a (b a) c).1,(CE (GB b d c f a).1 d a (b a) c).2.1||(GB b d c f a).2.1,if(CE (GB b d c f a).1 d a (b a) c).2.2≠0 then 6 else(GB b d c f a).2.2):=rfl
theorem oy{a:AP}{c d:D}{f:M}{b:BC}(h:(CE a c d f b).2.2≠0):(CE a c d f b).2.2=6:=by unfold CE at*;grind
theorem aN(b:D->M)(d:D)(c:BC)(f:AP):∀a,((B7 b d c f a).2.2=0->GB b d c f a=B7 b d c f a)/\((B7 b d c f a).2.2≠0->(B7 b d c f a).2.2=6/\(GB b d c f a).2.2=6)
 |0=>⟨λ_=>B,λh=>A_ B h⟩
 |a+1=>by
  let⟨k,l⟩:=aN b d c f a
  rw[aT,Tx];by_cases i:(B7 b d c f a).2.2=0
  .by_cases j:(b a).Ai=0;.grind
   .rw[Ad (by grind),Ad j,(k i)];by_cases g:(CE (B7 b d c f a).1 d a (b a) c).2.2=0;.grind
    .rw[Af g,Af g];exact⟨P,λ_=>⟨oy g,B⟩⟩
  grind
theorem XU(f:D->M)(d:D)(c:BC)(a:AP):∀b,D4 a (GB f d c a b).1/\(GB f d c a b).1.next=a.next
 |0=>⟨D4.refl a,B⟩
 |b+1=>by
  have g:=XU f d c a b;rw[Tx];split;.grind
  .have:=aU (GB f d c a b).1 d b (f b) c;exact⟨g.1.AQ this.1,this.2.t g.2⟩
theorem D_.GB{e:Ah}{i c:D}{b:AP}{g:BC}(l:D_ e i b)(k:Td e i c g){j:D->M}(q:∀a,BN e.Ae.l (j a)){f:D}(o:∀a,a<f->Fk b.AB c a)(p:∀a,a<f->Fk b.A5 c a):∀d,d<=f->D_ e i (GB j c g b d).1
 |0,_=>l
 |d+1,s=>by
  have r:=D_.GB l k q o p d (by omega);have m:=(XU j c g b d).1;rw[Tx];split;.grind
  .rename_i n;exact r.GA k P n (MV m.AB P) (MV m.A5 P)
section
variable{t:Fu} {h:G} {e:Ah} {v:C (C (C K))} {w:K} {u:Aa->Prop}
theorem uZ(M:Bj t.l)(y:Bn t.l e)(r:Bx t h e v w u){c:Aa}(xE:u c){T U W:F}{a:D}(N:h.N c=A (.I 7 (K6 (e.at a) T U W)))(q:a<e.T.l)(f:(e.at a).AN≠-1){I:D}{z:Ab}(g:DU t.l I z (e.at a)):∃p d,jj W9 135 20 [.p c 0,.p t.x 0,.n a] h=jj W9 135 16 [.p c 0,.p t.x 0,.n a,.p d 0,.b (Cl t.l e a).2] p/\Bx t p (Cl t.l e a).1 v w (λb=>u b\/b=d)/\p.N d=A (.I 5 (Ab.c z))/\BD u h p:=by
 let⟨b,R,xg,m,i,o,xp⟩:=y.up q f
 let⟨S,j⟩:=i.FM
 have V:=M.A4 S xg j.hb;have x:=V.Ao R m i.hn;have xF:=x.some M;let⟨xf,k,xJ,xj,xK,xL,xM⟩:=x.call i.op
 have xi:k=z:=by
  have xN:=i.CO;have:xf=I:=by have:=g.ha;omega
  subst this;exact AiI (xj.s.t g.hb)
 subst xi;have xD:=g.Ap;let⟨d,l,xq,xo,J,xl,xS,xT⟩:=box h (.I 5 (Ab.c k))
 let⟨xC,xz⟩:=F0 h (b:=5) [.s [],.n 0,.sn,.sn,.sn] (c:=Ab.c k) xq xo B B
 have xQ:∀b,u b->Lv h b:=λb f=>r.Dy f;have Y:=r;let⟨xV,xI,xe,xP⟩:=Y
 have xB:h.AA t.x 0=A (Z Ab.c t.l):=AJ xe.N 0;have xv:h.AA c 0=A (.n I):=by rw[AJ N];show A (F.n (e.at a).A4)=_;rw[g.ha]
 have xt:Bf 5 h [.pi (Ab.c k)]=A (.S (Ab.c k)):=B;have G:=(J.N P).t N;have xw:l.AA c 1=A (.n b):=by rw[AJ G];show A (F.n (e.at a).AN)=_;rw[o.2.1]
 have xx:l.AA c 2=A (.n R):=by rw[AJ G];show A (F.n (e.at a).Ao)=_;rw[o.2.2]
 have xy:l.AA c 3=A (.n (e.at a).As):=AJ G 3;have s:Bx t l e v w (λb=>u b\/b=d):=(r.V J).sub P;have xW:=y.W.sh.As a _ (Cu q);by_cases xh:(e.at a).As=0
 .have E:Cl t.l e a=(e.AM a (C2 (A9 (e.at b)) m.AT (e.at a) m.AT.l).1,(C2 (A9 (e.at b)) m.AT (e.at a) m.AT.l).2):=by
   unfold Cl
   simp only[o.2.1,o.2.2,Aif]
   rw[Ad (by omega)]
   unfold Nx
   rw[j.BB,i.hn,Aiz]
  rw[E]
  have xa:=s
  let⟨xU,xH,xd,xO⟩:=xa
  let⟨xA,xm,xr,xu,X,xk⟩:=YM xd xp ⟨⟨S,j.ha,j.hb⟩,i.hn⟩ (j.Dj x.AT) (by omega)
  have xb:Bx t xm e v w (λb=>(u b\/b=d)\/¬AE xA b):=(s.V X).sub λb f=>by
   rcases f with f|f;.grind
   .exact .j ⟨λxs=>f (xk b xs),P⟩
  let⟨xn,xR,xc,xG⟩:=Aav xb q xu (by omega) (by omega) (by omega) (y.W.p0 a q) (.p c 0) (.p d 0)
  refine⟨xn,d,?_,xc.sub P,P,P⟩
  rw[EF.2.1]
  simp only[↓xC,↓Q,↓QT,↓H xB,↓H xv,↓H (Da g.hb),↓H xt,↓H xz,↓H xy,xh,↓H xw,↓H xx,↓H xr]
  grind
 .have E:Cl t.l e a=(e,Ac):=by
   unfold Cl
   grind
  rw[E]
  refine⟨l,d,?_,s,xl,P⟩
  rw[EF.2.1]
  simp only[QZ,H (Da g.hb), *]
abbrev bX(t:Fu)(e:Ah)(a b d c:D):=GB (DN t.l (e.at a)) b ⟨(e.at a).As,Ac,L⟩ (e.at d) c
theorem Aay(xq:Bj t.l)(E:Bn t.l e)(xF:Bx t h e v 0 u)(xG:Do e v){j:Aa}(R:u j){a:D}(xP:a<e.T.l){b d:D}(xl:By e a b d)(q:b<e.T.l)(xQ:b<a){xa:D}{f:Ab}(z:DU t.l xa f (e.at a))(X:h.N j=A (.I 5 (Ab.c f)))(xe:Td e b d ⟨(e.at a).As,Ac,L⟩)(xb:∀k,k<f.Bs.l->Fk (e.at b).AB d k)(xc:∀k,k<f.Bs.l->Fk (e.at b).A5 d k)(p:F)(r:Ak):
  ∃g l,jj W9 135 13 [.n 0,p,.p t.x 0,.n a,.p j 0,.b r] h=jj W9 135 12 [p,.p t.x 0,.n a,.p j 0,.b ((bX t e a d b f.Bs.l).2.1||r)] g/\
   Bx t g (e.AM b (bX t e a d b f.Bs.l).1) l (bX t e a d b f.Bs.l).2.2 u/\Do (e.AM b (bX t e a d b f.Bs.l).1) l/\BD u h g:=by
 have Q:=xq.A4 xa f z.hb
 have xO:=Q.Bs
 have xE:∀k,BN e.Ae.l (DN t.l (e.at a) k):=λk=>by
  unfold DN;split;.exact E.W.A9 a _
  .exact Hb _
 have xp:=λc m=>(D_.refl E.W q).GB xe xE (f:=f.Bs.l) xb xc c m
 let⟨_,g,x,l,xg,xn,U⟩:=Ez (h:=f.Bs.l) (f:=λc _ h=>jj W9 135 13 [.n c,p,.p t.x 0,.n a,.p j 0,.b ((bX t e a d b c).2.1||r)] h)
  (g:=λc _ g=>∃l,Bx t g (e.AM b (bX t e a d b c).1) l (bX t e a d b c).2.2 u/\Do (e.AM b (bX t e a d b c).1) l/\BD u h g)
  (λc _ xL m xk=>by
   let⟨xz,S,xo,xs⟩:=xk
   have T:=xp c (by omega);have xt:=E.AM T;let⟨M,y⟩:=Bo m
   have xw:DN t.l (e.at a) c=A9 (e.at a) M:=by unfold DN;rw[z.BB,y]
   let⟨o,Z⟩:=z.Dv (Q.ex M (Ail y))
   have xx:DN t.l (e.at a) c=o:=xw.t (PQ Z);have xC:a<(e.AM b (bX t e a d b c).1).T.l:=by rw[D0];grind
   have V:(e.AM b (bX t e a d b c).1).at a=e.at a:=P8 q Om;have G:(e.AM b (bX t e a d b c).1).at b=(bX t e a d b c).1:=Hc q;have xA:=(xs j R).t X;have xJ:=Dx m;have xv:=xA;have xj:=S;let⟨xS,xI,xu,xN⟩:=xj
   obtain⟨xM,xR,xf⟩:=YL xu xC M (by rw[V];exact Z);have xh:=S.ext xf;have xd:=(XU (DN t.l (e.at a)) d ⟨(e.at a).As,Ac,L⟩ (e.at b) c).1;have xm:=T.E9.2 xl;obtain⟨xB,Y⟩:=s3 xh xo xt xm P (by rw[G];exact MV xd.AB (xb c m)) (by rw[G];exact MV xd.A5 (xc c m)) o;rw[V,G,MD]at Y;by_cases W:o.Ai=0
   .let⟨N,xD,xi,xr⟩:=xB W
    have J:bX t e a d b (c+1)=bX t e a d b c:=by unfold bX;rw[Tx,Af (by grind)]
    refine⟨(),N,?_,xz,by grind,by grind,P⟩;rw[EF.2.2.2.2.2.2.2.1,J];simp only[QY,EF.2.2.2.2.2.2.2.2.1,H (Kd y),EF.2.2.2.2.2.2.2.2.2.1,H (BF (a:=c) (by omega)), *]
   .let⟨N,xy,xD,xi,xH,xr⟩:=Y W
    have J:bX t e a d b (c+1)=((CE (bX t e a d b c).1 d c o ⟨(e.at a).As,Ac,L⟩).1,(CE (bX t e a d b c).1 d c o ⟨(e.at a).As,Ac,L⟩).2.1||(bX t e a d b c).2.1,if(CE (bX t e a d b c).1 d c o ⟨(e.at a).As,Ac,L⟩).2.2≠0 then 6 else(bX t e a d b c).2.2):=by unfold bX;rw[Tx,Ad (by grind),xx]
    refine⟨(),N,?_,xy,by grind,by grind,P⟩;rw[EF.2.2.2.2.2.2.2.1,J];simp only[QY,EF.2.2.2.2.2.2.2.2.1,H (Kd y),MB,Aka,EF.2.2.2.2.2.2.2.2.2.1,H (BF (a:=c) (by omega)), *])
  (b:=()) (a:=h) ⟨v,by show Bx t h (e.AM b (e.at b)) v 0 u;rw[ME q];grind,by show Do (e.AM b (e.at b)) v;rw[ME q];grind,P⟩
 have x:jj W9 135 13 [.n 0,p,.p t.x 0,.n a,.p j 0,.b (Ac||r)] h=jj W9 135 13 [.n f.Bs.l,p,.p t.x 0,.n a,.p j 0,.b ((bX t e a d b f.Bs.l).2.1||r)] g:=x
 rw[AjE]at x
 have xK:=Dz f.Bs.l
 have xv:=(U j R).t X
 refine⟨g,l,?_,xg,xn,U⟩
 rw[x,EF.2.2.2.2.2.2.2.1]
 simp only[QY, *]
end
abbrev bF(f:M)(e:Ah)(a b d c:D):=GB (λ_=>f) b ⟨(e.at a).As,L,L⟩ (e.at d) c
section
variable{t:Fu} {h:G} {e:Ah} {v:C (C (C K))} {r:K} {u:Aa->Prop}
theorem Aaw(xl:Bj t.l)(T:Bn t.l e)(xv:Bx t h e v 0 u)(xw:Do e v){k m:Aa}(N:u k)(xc:u m){b:D}(xD:b<e.T.l){a d:D}(xh:By e b a d)(z:a<e.T.l)(xE:a<b){W:D}{g:Ab}(xb:DU t.l W g (e.at b))(V:h.N k=A (.I 5 (Ab.c g))){c:M}(xp:h.N m=A (.I 2 (M.c c)))(xs:c.Ai≠0)(xt:BN e.Ae.l c)(xa:Td e a d ⟨(e.at b).As,L,L⟩)(X:∀x,x<g.Bs.l->Fk (e.at a).AB d x)(Y:∀x,x<g.Bs.l->Fk (e.at a).A5 d x)(w:F)(E:Ak):
  ∃j o,jj W9 135 8 [.n 0,.p m 0,w,.p t.x 0,.n b,.p k 0,.b E] h=jj W9 135 7 [.p m 0,w,.p t.x 0,.n b,.p k 0,.b ((bF c e b d a g.Bs.l).2.1||E)] j/\
   Bx t j (e.AM a (bF c e b d a g.Bs.l).1) o (bF c e b d a g.Bs.l).2.2 u/\Do (e.AM a (bF c e b d a g.Bs.l).1) o/\BD u h j:=by
 have xC:=(xl.A4 W g xb.hb).Bs
 let⟨_,j,J,o,xd,xi,R⟩:=Ez (h:=g.Bs.l) (f:=λf _ h=>jj W9 135 8 [.n f,.p m 0,w,.p t.x 0,.n b,.p k 0,.b ((bF c e b d a f).2.1||E)] h)
  (g:=λf _ j=>∃o,Bx t j (e.AM a (bF c e b d a f).1) o (bF c e b d a f).2.2 u/\Do (e.AM a (bF c e b d a f).1) o/\BD u h j)
  (λf _ xB y xg=>by
   let⟨xA,xf,xk,S⟩:=xg
   have Q:=(λf y=>(D_.refl T.W z).GB xa (j:=λ_=>c) (λ_=>xt) (f:=g.Bs.l) X Y f y) f (by omega);have xr:a<(e.AM a (bF c e b d a f).1).T.l:=by rw[D0];grind
   have U:(e.AM a (bF c e b d a f).1).at b=e.at b:=P8 z Om;have G:(e.AM a (bF c e b d a f).1).at a=(bF c e b d a f).1:=Hc z;have xy:=Dx y;have xm:=(S k N).t V;have xF:=(S m xc).t xp;have Z:=(XU (λ_=>c) d ⟨(e.at b).As,L,L⟩ (e.at a) f).1;obtain⟨xq,xo,xu,xe,xj,xx⟩:=s4 xf xk (T.AM Q) (Q.E9.2 xh) xr (by rw[G];exact MV Z.AB (X f y)) (by rw[G];exact MV Z.A5 (Y f y)) c;rw[U,G]at xu;rw[U,G,MD]at xe xj;have xn:bF c e b d a (f+1)=((CE (bF c e b d a f).1 d f c ⟨(e.at b).As,L,L⟩).1,(CE (bF c e b d a f).1 d f c ⟨(e.at b).As,L,L⟩).2.1||(bF c e b d a f).2.1,if(CE (bF c e b d a f).1 d f c ⟨(e.at b).As,L,L⟩).2.2≠0 then 6 else(bF c e b d a f).2.2):=by unfold bF;rw[Tx,Ad xs]
   refine⟨(),xq,?_,xo,by grind,by grind,P⟩;rw[EF.2.2.2.2.2.2.2.2.2.2.2.2.1,xn];simp only[QY,EF.2.2.2.2.2.2.2.2.2.2.2.2.2.1,MB,Aka,EF.2.2.2.2.2.2.2.2.2.2.2.2.2.2.1,H (BF (a:=f) (by omega)), *])
  (b:=()) (a:=h) ⟨v,by show Bx t h (e.AM a (e.at a)) v 0 u;rw[ME z];grind,by show Do (e.AM a (e.at a)) v;rw[ME z];grind,P⟩
 have J:jj W9 135 8 [.n 0,.p m 0,w,.p t.x 0,.n b,.p k 0,.b (Ac||E)] h=jj W9 135 8 [.n g.Bs.l,.p m 0,w,.p t.x 0,.n b,.p k 0,.b ((bF c e b d a g.Bs.l).2.1||E)] j:=J
 rw[AjE]at J
 have xz:=Dz g.Bs.l
 have xm:=(R k N).t V
 refine⟨j,o,?_,xd,xi,R⟩
 rw[J,EF.2.2.2.2.2.2.2.2.2.2.2.2.1]
 simp only[QY, *]
theorem Aax(Z:Bj t.l)(xi:Bx t h e v r u){g:Aa}(G:u g){c a:D}(xq:c<e.T.l)(k:a<e.T.l)(xf:c≠a){U:D}{b:Ab}(E:DU t.l U b (e.at c))(R:h.N g=A (.I 5 (Ab.c b)))(xm:1<=b.A6.l)(xs:b.A6.l<=(e.at a).Ap.l)(S:(BQ (e.at a) 0).Ai≠0)(o:Ak):∃f,jj W9 135 2 [.n a,.p t.x 0,.n c,.p g 0,.n 1,.b o] h=A (.b ((C2 (A9 (e.at c)) b.A6 (e.at a) b.A6.l).2||o),f)/\Bx t f (e.AM a (C2 (A9 (e.at c)) b.A6 (e.at a) b.A6.l).1) v r u/\BD u h f:=by
 have z:=Z.A4 U b E.hb;have xt:=z.A6;let⟨⟨⟩,f,j,J,N⟩:=Ez (h:=b.A6.l-1) (f:=λd _ h=>jj W9 135 2 [.n a,.p t.x 0,.n c,.p g 0,.n (d+1:D),.b ((C2 (A9 (e.at c)) b.A6 (e.at a) (d+1)).2||o)] h) (g:=λd _ f=>Bx t f (e.AM a (C2 (A9 (e.at c)) b.A6 (e.at a) (d+1)).1) v r u/\BD u h f)
  (λd _ xn xr Y=>by
   let⟨M,xa⟩:=Y
   let⟨w,y⟩:=Bo (b:=b.A6) (a:=d+1) (by omega)
   have xk:(d+1:D)<(b.A6.l:K):=by omega
   let⟨V,T⟩:=E.Dv (z.nx w P)
   have Q:A9 (e.at c) w=V:=PQ T;have xe:c<(e.AM a (C2 (A9 (e.at c)) b.A6 (e.at a) (d+1)).1).T.l:=by rw[D0];grind
   have xg:a<(e.AM a (C2 (A9 (e.at c)) b.A6 (e.at a) (d+1)).1).T.l:=by rw[D0];grind
   have xc:=(xa g G).t R;let⟨p,q,xb,xp⟩:=M
   obtain⟨xo,xu,W⟩:=YL xb xe w (by rw[(P8 k xf:(e.AM a (C2 (A9 (e.at c)) b.A6 (e.at a) (d+1)).1).at c=e.at c)];exact T);let⟨xd,xh,X,xj⟩:=cn (M.ext W) (a:=a) (b:=d+1) xg (by rw[Hc k,(Ns (A9 (e.at c)) b.A6 (e.at a) (d+1)).1.Ap];omega) V
   rw[Hc k,MD]at X;rw[Hc k]at xh;refine⟨(),xd,?_,by rw[YQ y,Q];omega,P⟩;rw[EF.2.2.2.2.2.2.2.2.2.2.2.2.2.2.2.2.2.2.1,YQ y,Q];simp only[QY,EF.2.2.2.2.2.2.2.2.2.2.2.2.2.2.2.2.2.2.2.1,H (Kd y),MB,Aka,EF.2.2.2.2.2.2.2.2.2.2.2.2.2.2.2.2.2.2.2.2,H (BF (a:=d+1) (by omega)), *])
  (b:=()) (a:=h) ⟨by rw[YS S,ME k];grind,P⟩
 rw[show b.A6.l-1+1=b.A6.l by omega]at j J;rw[YS S,AjE]at j;have j:jj W9 135 2 [.n a,.p t.x 0,.n c,.p g 0,.n 1,.b o] h=_:=j;have xl:=Dz b.A6.l;have xc:=(N g G).t R;refine⟨f,?_,J,N⟩;rw[j,EF.2.2.2.2.2.2.2.2.2.2.2.2.2.2.2.2.2.2.1];simp only[QY,EF.2.2.2.2.2.2.2.2.2.2.2.2.2.2.2.2.2.1, *]
end
section
variable{p:Aa->Bz} {h:G} {l:C Ab} {x:Aa} {e:Ah} {v:C (C (C K))} {r:K} {q:Bz->F}
theorem Cs.WA(g:Cs p h l x e v r q){a:D}(d:a<e.T.l):∃b,AZ 1 [q .Ae,.n a]=A (.p b (a*1))/\AW h [.p b (a*1)]=A (.b (!Au ((e.at a).next= -1))):=by
 let⟨b,c⟩:=Dm (f:=Hk) (w:=1) (λ_=>B) (g.D8 .Ae) (Cu d)
 exact⟨b,c.ia,by exact(c.AA (f:=Hk) (w:=1) (λ_=>B) (Cu d) (b:=0) (by omega))⟩
theorem Cs.Aee(g:Cs p h l x e v r q){a:D}(k:a<e.T.l){b:K}(E:b≠-1):∃d j,AZ 1 [q .Ae,.n a]=A (.p d (a*1))/\A1 1 h [.p d (a*1),.b L]=A (Ax,j)/\Cs p j l x (e.AM a {e.at a with next:=b}) v r q/\Fb p h j .Ae:=by
 have o:=g.D8 .Ae;have n:Hk {e.at a with next:=b}=[.b L]:=by unfold Hk;rw[Ba (show¬(({e.at a with next:=b}:AP).next= -1)from E)];rfl
 let⟨d,i⟩:=Dm (f:=Hk) (w:=1) (λ_=>B) o (Cu k)
 let⟨s,G⟩:=i.set (f:=Hk) (w:=1) (λ_=>B) o (Cu k) (c:={e.at a with next:=b}) (g:=.b L) (by rw[n];rfl) (by rw[n];rfl)
 have m:=WM (h:=h) (c:=.I (e.T.l*1) ((e.T.set a {e.at a with next:=b}).f Hk)) (g.tg .Ae (by grind) d i.nb).2;refine⟨d,_,i.ia,s,g.EY m P (by grind) B B B G λI H F=>af (b:={e.at a with next:=b}) k ⟨B,B,B,B,B,B,B,B⟩ F P P P P,m⟩
end
theorem Do.K1{i:C Ab}{e:Ah}{u:C (C (C K))}(a:Do e u)(b:Ab)(m p o q:K)(r:M):Do ⟨e.T++[KQ i b m p o q r],e.Ae,e.round,e.Aq⟩ (u++[IR i b.Ay]):=by
 have z:(Ah.mk (e.T++[KQ i b m p o q r]) e.Ae e.round e.Aq).T.l=e.T.l+1:=by grind
 have N:∀d g,BT (KQ i b m p o q r) d g=E3:=λd g=>Tv _ _ _ _ _;have J:(IR i b.Ay).m List.length=(KQ i b m p o q r).A5.m List.length:=by show(b.Ay.m λE=>Bv _ 0).m _=(b.Ay.m λE=>Bv _ _).m _;rw[Aja,Aja];congr 1;grind
 have Q:∀(d g:D) k l,(IR i _)[d]? =A k->k[g]? =A l->l=0:=λd g k l c x=>by
  unfold IR at c
  rw[AiL]at c
  cases H:b.Ay[d]?with
  |none=>rw[H]at c;grind
  |some E=>grind
 refine⟨by rw[Zf,z,a.AX],λj v n=> ?_,λj d g v k l c x G=> ?_⟩
 .rw[FG];by_cases f:j=e.T.l;.rw[Af f];rw[f,<-a.AX,Ajx Om,AjK]at n;grind
  .have s:=(Aid.1 n).1;rw[Zf,a.AX]at s;rw[Ajo (by rw[a.AX];omega)]at n;rw[Ad f];exact a.E_ j v n
 .rw[FG];by_cases f:j=e.T.l;.rw[Af f];rw[f,<-a.AX,Ajx Om,AjK]at c;have:=AiI c;subst this;exact .i ⟨P,P⟩
  .have s:=(Aid.1 c).1;rw[Zf,a.AX]at s;rw[Ajo (by rw[a.AX];omega)]at c;rw[Ad f];refine(a.Cy j d g v k l c x G).E9 λI F=> ?_;unfold By at F⊢;rw[FG,Ad (by omega),z];grind
theorem Do.S2{e:Ah}{u:C (C (C K))}(b:Do e u){a:D}(c:a<e.T.l)(d:K):Do (e.AM a {e.at a with next:=d}) u:=b.AM c ⟨B,B,B,B,B,B,B,B⟩ B
theorem YP(d:AH->M)(c:C AH)(b:AP):∀a,(C2 d c b a).1.A5=b.A5
 |0=>rfl
 |a+1=>by
  have g:=YP d c b a
  show(match c[a]?with|some f=>((ER _ a _).1,(ER _ a _).2||(C2 _ _ b a).2)|none=>C2 _ c b a).1.A5=_
  cases c[a]?with
  |none=>grind
  |some f=>show(ER (C2 d c b a).1 a (d f)).1.A5=_;unfold ER;grind
section
variable{t:Fu} {h:G} {e:Ah} {u:C (C (C K))} {y:K} {w:Aa->Prop}
theorem mL(M:Bj t.l)(f:Bn t.l e)(o:Bx t h e u 0 w){G H:Aa}(xk:w G)(V:w H){S T U:F}{c:D}(r:h.N G=A (.I 7 (K6 (e.at c) S T U)))(j:c<e.T.l)(xe:(e.at c).AN≠-1){x:D}{i:Ab}(g:DU t.l x i (e.at c))(Z:h.N H=A (.I 5 (Ab.c i)))(xx:i.A6.l≠0)(N:(e.at c).next≠-1)(q:Ak):∃s,jj W9 135 6 [.p G 0,.p t.x 0,.n c,.p H 0,.b q] h=A (.b ((Gp t.l e c).2||q),s)/\Bx t s (Gp t.l e c).1 u 0 w/\BD w h s:=by
 let⟨l,d,k⟩:=f.next j N
 let⟨z,v,xo,xB,xm,m,xy⟩:=f.up j xe
 let⟨xg,Y,n⟩:=f.W.sh.Bw l _ (Cu k)
 have xd:=f.W.sh.AX;have xF:=f.W.sh.As c _ (Cu j);have I:=M.A4 x i g.hb;have xb:Y=i:=by
  have:xg=x:=by have:=g.ha;have:=n.ha;have:=d.A4;omega
  subst this;exact AiI (n.hb.s.t g.hb)
 subst xb;have W:=o;let⟨xE,xn,p,xt⟩:=W
 let⟨xp,xf,R⟩:=p.WA j
 have xG:=p.N;have xi:=p.N;rw[Ba N]at R;have xC:=r;have xD:=r;have xh:=r;have xr:=GJ (a:=(e.at c).As) (b:=1) (by omega) (by omega);have xq:DW [.b L]=A (.b Ac):=B;let⟨xs,xz,J⟩:=s5 o xd (e.at c).AN (e.at c).Ao ((e.at c).As+1) k ⟨d.AN,d.Ao,d.As,by have:=d.lt;omega⟩ (λQ xv E=>by have:=f.W.IU l Q z v (⟨k,d.AN.t m.2.1,d.Ao.t m.2.2⟩:By e l z v) (⟨by omega,E.1.t m.2.1,E.2.1.t m.2.2⟩:By e Q z v) (by rw[E.2.2.1,d.As]);omega)
 have xc:c≠l:=by have:=d.lt;omega
 have xj:=n.Ap;have xw:=I.A6;have xu:=I.Ap;let⟨xa,xA,X,xl⟩:=Aax M (o.ext J) V j k xc g ((J.N P).t Z) (by omega) (by omega) (f.W.p0 l k) q
 unfold Gp;simp only[d.next,Aif,g.BB];refine⟨xa,?_,X,P⟩;rw[EF.2.2.2.2.2.2.2.2.2.2.2.2.2.2.2.1];simp only[L_,xi,xf,R,QB,EF.2.2.2.2.2.2.2.2.2.2.2.2.2.2.2.2.1,xh];grind
abbrev Px(d:C Ab)(b:Ab)(c:D)(e:Ah)(a:D)(f:M):Ah:=⟨e.T++[KQ d b c (e.at a).AN (e.at a).Ao ((e.at a).As+1) f],e.Ae,e.round,e.Aq⟩
abbrev nC(e:Ah)(a:D):AP:={e.at a with next:=(e.T.l:K)}
theorem AeS(I:Bj t.l)(r:Bn t.l e)(xt:Bx t h e u 0 w)(Y:Do e u){m x:Aa}(yP:w m)(yQ:w x){xG xH xI:F}{c:D}(yq:h.N m=A (.I 7 (K6 (e.at c) xG xH xI)))(p:c<e.T.l)(xe:(e.at c).AN≠-1){k:D}{d:Ab}(q:DU t.l k d (e.at c))(xP:h.N x=A (.I 5 (Ab.c d)))(xW:d.A6.l≠0)(s:Ak):((EM t.l e c).2.2=0->∃V xo,jj W9 135 11 [.p m 0,.p t.x 0,.n c,.p x 0,.b s] h=A (.b ((EM t.l e c).2.1||s),V)/\Bx t V (EM t.l e c).1 xo 0 w/\Do (EM t.l e c).1 xo/\BD w h V)/\((EM t.l e c).2.2≠0->∃V yi xo yf,jj W9 135 11 [.p m 0,.p t.x 0,.n c,.p x 0,.b s] h=A (.b yf,V)/\Bx t V yi xo (EM t.l e c).2.2 w/\BD w h V):=by
 let⟨g,xg,yT,y3,xk,xj,xX⟩:=r.up p xe
 have yY:=r.W.sh.AX;have zc:=r.W.sh.As c _ (Cu p);have x3:=I.A4 k d q.hb;let⟨xc,xU⟩:=Bo (b:=d.A6) (a:=0) (by omega)
 let⟨f,xY⟩:=q.Dv (x3.nx xc P)
 have xn:B8 t.l (e.at c)=f:=by unfold B8;rw[q.BB,xU,Aiz];exact PQ xY
 have yN:BN e.Ae.l f:=by rw[<-xn];exact r.W.A9 c _
 have yX:∀g,w g->Lv h g:=λg xe=>xt.Dy xe;have yU:h.AA x 3=A (Z AH.c d.A6):=AJ xP 3;have yZ:AZ 2 [Z AH.c d.A6,.n 0]=A (.pi (AH.c xc)):=Kd (a:=0) xU;have y8:Bf 2 h [.pi (AH.c xc)]=A (.S (AH.c xc)):=B;have x7:=xt;let⟨y9,yR,yc,yV⟩:=x7
 let⟨xT,y0,x5⟩:=YL yc p xc xY
 let⟨G,R,yx,yu,x6,xA,y1,y4⟩:=box xT (.I 2 (M.c f))
 let⟨zd,zb⟩:=F0 xT (b:=2) [.i .u8 0,.n 0] (c:=M.c f) yx yu B B
 have xs:=x5.AQ x6;have X:Bx t R e u 0 (λg=>w g\/g=G):=(xt.V xs).sub P;have xO:=(xs.N P).t yq;have xQ:=(xs.N P).t xP;have x1:R.AA G 0=A (.i .u8 f.Ai):=AJ xA 0;have yk:DW [.b Ac]=A (.b L):=B;have x2:f.Ai=5->jj W9 135 11 [.p m 0,.p t.x 0,.n c,.p x 0,.b s] h=jj W9 135 8 [.n 0,.p G 0,.p m 0,.p t.x 0,.n c,.p x 0,.b s] R:=λyh=>by rw[EF.2.2.2.2.2.2.2.2.2.2.1];simp only[L_, *]
 have xr:f.Ai≠5->jj W9 135 11 [.p m 0,.p t.x 0,.n c,.p x 0,.b s] h=jj W9 135 7 [.p G 0,.p m 0,.p t.x 0,.n c,.p x 0,.b s] R:=λyh=>by rw[EF.2.2.2.2.2.2.2.2.2.2.1];simp only[L_, *]
 by_cases xb:f.Ai=0
 .have E:(e.at c).next= -1:=Aih λxD=>(r.W.EO c p xD).1 (by grind)
  unfold EM;simp only[];rw[xn,Af xb];refine⟨λ_=> ?_,P⟩;let⟨xi,J,j,xp⟩:=X
  let⟨xl,xf,H⟩:=j.WA p
  rw[Be E]at H;have xF:R.AA t.x 7=A (.n 0):=AJ j.N 7;have xE:R.AA t.x 6=A (J .Ae):=AJ j.N 6;refine⟨R,u,?_,⟨xi,J,j,P⟩,Y,P⟩;rw[xr (by omega),EF.2.2.2.2.2.2.2.2.2.2.2.1];simp only[L_,EF.2.2.2.2.2.2.2.2.2.2.2.2.2.2.2.1,AiB,AjE, *]
 by_cases N:f.Ai=5
 .have E:(e.at c).next= -1:=Aih λxD=>(r.W.EO c p xD).2 (by grind)
  let⟨yE,yD,yJ,yK,y5,y6⟩:=xk.E_ I q
  have U:EM t.l e c=(e.AM g (B7 (λ_=>f) xg ⟨(e.at c).As,L,L⟩ (e.at g) d.Bs.l).1,(B7 (λ_=>f) xg ⟨(e.at c).As,L,L⟩ (e.at g) d.Bs.l).2):=by unfold EM;simp only[];rw[xn,Ad xb,Af N];unfold HU;simp only[xj.2.1,xj.2.2,Aif,Aiz, *]
  let⟨o,xN,xq,z,xa,ya⟩:=Aaw I r X Y P (.j B) p xj xX xk.lt q xQ xA xb yN (xk.GA I r xj L) (λyO yy=>⟨yE,yJ,by omega⟩) (λyO yy=>⟨yD,yK,by omega⟩) (.p m 0) s
  unfold bF at xq z xa;have y7:o.AA G 0=A (.i .u8 f.Ai):=AJ ((ya G (.j B)).t xA) 0;have yA:c≠g:=by have:=xk.lt;omega
  have xL:BD w h o:=by grind
  let⟨xy,xz⟩:=aN (λ_=>f) xg ⟨(e.at c).As,L,L⟩ (e.at g) d.Bs.l
  rw[U];have x9:=z;let⟨xi,J,j,xp⟩:=x9
  constructor
  .intro xm;have xy:=xy xm;rw[xy]at xq z xa j;rw[xm]at z j;have yw:c<(e.AM g (B7 (λ_=>f) xg ⟨(e.at c).As,L,L⟩ (e.at g) d.Bs.l).1).T.l:=by rw[D0];grind
   let⟨xl,xf,H⟩:=j.WA yw
   rw[P8 xX yA,Be E]at H;have xF:o.AA t.x 7=A (.n 0):=AJ j.N 7;have xE:o.AA t.x 6=A (J .Ae):=AJ j.N 6;refine⟨o,xN,?_,z.sub P,xa,xL⟩;rw[x2 N,xq,EF.2.2.2.2.2.2.2.2.2.2.2.1];simp only[L_,Int.reduceEq,QB,EF.2.2.2.2.2.2.2.2.2.2.2.2.2.2.2.1,AiB, *]
  .intro xm;let⟨yj,xz⟩:=xz xm
   rw[xz]at z j;have xF:o.AA t.x 7=A (.n 6):=AJ j.N 7;refine⟨o,_,xN,(GB (λ_=>f) xg ⟨(e.at c).As,L,L⟩ (e.at g) d.Bs.l).2.1||s,?_,by rw[yj];exact z.sub P,xL⟩;rw[x2 N,xq,EF.2.2.2.2.2.2.2.2.2.2.2.1];simp only[L_,Int.reduceEq,QB,EF.2.2.2.2.2.2.2.2.2.2.2.2.2.2.2.1, *]
 .by_cases E:(e.at c).next= -1
  ·
   have x8:=X;let⟨xi,J,j,xp⟩:=x8
   let⟨xl,xf,H⟩:=j.WA p
   rw[Be E]at H;have xE:R.AA t.x 6=A (J .Ae):=AJ j.N 6;let⟨yg,o,yz,yM,yd,xa⟩:=j.Aee p (b:=e.T.l) (by omega)
   have yt:xl=yg:=by grind
   subst yt;let⟨yo,yp⟩:=xa.FQ (by grind) xp
   have z:Bx t o (e.AM c (nC e c)) u 0 (λg=>w g\/g=G):=⟨xi,J,yd,yo⟩;have xd:=(yp m P).t xO;have yF:o.AA m 0=A (.n k):=by rw[AJ xd];show A (F.n (e.at c).A4)=_;rw[q.ha]
   have yG:o.AA m 1=A (.n (e.at c).AN):=AJ xd 1;have yH:o.AA m 2=A (.n (e.at c).Ao):=AJ xd 2;have yI:o.AA m 3=A (.n (e.at c).As):=AJ xd 3;have ym:=GJ (a:=(e.at c).As) (b:=1) (by omega) (by omega);have yL:o.AU G 0 2=A (M.c f):=B2 P;have x0:(e.AM c (nC e c)).T.l=e.T.l:=D0 ..;let⟨xR,xS⟩:=cl I z (by rw[x0];exact Y.AX) (by grind) q.hb (e.at c).AN (e.at c).Ao ((e.at c).As+1) f
   rw[x0]at xR xS;have xh:Fh t.l e c=if e.T.l=400 then(e,Ac,5)else(Ah.AM (Px t.l d k e c f) c (nC e c),L,0):=by
    unfold Fh nC;simp only[];rw[Af E];unfold ED;by_cases T:e.T.l=400;.grind
    .rw[Ad T,Ad T,q.ha,Aif,q.hb,xn];rfl
   by_cases T:e.T.l=400
   .rw[Af T]at xh;have U:EM t.l e c=(e,Ac,5):=by unfold EM;grind
    rw[U];refine⟨P,λ_=> ?_⟩;let⟨W,xZ,S,xK⟩:=xR T
    let⟨za,yS,ye,yW⟩:=S
    have xF:W.AA t.x 7=A (.n 5):=AJ ye.N 7;refine⟨W,_,u,L,?_,S.sub P,P⟩;rw[xr N,EF.2.2.2.2.2.2.2.2.2.2.2.1];simp only[Q,QT,Int.reduceEq,QB,AiB,EF.2.2.2.2.2.2.2.2.2.2.2.2.2.2.2.1,ZR, *]
   .rw[Ad T]at xh;let⟨W,xZ,S,xK⟩:=xS T
    have xx:=Zt I r p xe (by grind) (by grind);rw[xh]at xx;have yn:⟨(e.AM c (nC e c)).T++[KQ t.l d k (e.at c).AN (e.at c).Ao ((e.at c).As+1) f],e.Ae,e.round,e.Aq⟩=Ah.AM (Px t.l d k e c f) c (nC e c):=by unfold Ah.AM;grind
    have S:Bx t W ⟨(e.AM c (nC e c)).T++[KQ t.l d k (e.at c).AN (e.at c).Ao ((e.at c).As+1) f],e.Ae,e.round,e.Aq⟩ (u++[IR t.l d.Ay]) 0 (λg=>w g\/g=G):=S;have xJ:Do ⟨(e.AM c (nC e c)).T++[KQ t.l d k (e.at c).AN (e.at c).Ao ((e.at c).As+1) f],e.Ae,e.round,e.Aq⟩ (u++[IR t.l d.Ay]):=(Y.S2 p _).K1 d k _ _ _ f;rw[yn]at S xJ;have y2:(Px t.l d k e c f).T.l=e.T.l+1:=by grind
    have yv:c<(Px t.l d k e c f).T.l:=by grind
    have U:EM t.l e c=((Gp t.l (Fh t.l e c).1 c).1,(Gp t.l (Fh t.l e c).1 c).2||true,0):=by unfold EM;grind
    rw[U,xh];refine⟨λ_=> ?_,P⟩;have xM:(Ah.AM (Px t.l d k e c f) c (nC e c)).at c=(nC e c):=Hc yv;have xV:c<(Ah.AM (Px t.l d k e c f) c (nC e c)).T.l:=by grind
    have yr:W.N m=A (.I 7 (K6 ((Ah.AM (Px t.l d k e c f) c (nC e c)).at c) xG xH xI)):=by rw[xM];exact(xK m P).t xd
    have ys:W.N x=A (.I 5 (Ab.c d)):=by grind
    have x4:DU t.l k d ((Ah.AM (Px t.l d k e c f) c (nC e c)).at c):=by rw[xM];exact q.BG ⟨B,B,B,B,B,B,B,B⟩
    let⟨xB,yC,xu,yb⟩:=mL I xx S P P yr xV (by grind) x4 ys xW (by grind) L
    have xw:Do (Gp t.l (Ah.AM (Px t.l d k e c f) c (nC e c)) c).1 (u++[IR t.l d.Ay]):=by
     let⟨yB,xv,xC⟩:=xx.next xV (by grind)
     unfold Gp;simp only[xv.next,Aif];refine xJ.AM xC (Ns _ _ _ _).1 ?_;exact YP _ _ _ _
    refine⟨xB,_,?_,xu.sub P,xw,P⟩;rw[xr N,EF.2.2.2.2.2.2.2.2.2.2.2.1];simp only[L_,Int.reduceEq,x1,xb,N,QB,xE,xf,H,AiB,yk,yz,yM,yF,yG,yH,yI,ym,yL,xZ];grind
  ·
   have U:EM t.l e c=((Gp t.l e c).1,(Gp t.l e c).2||false,0):=by
    have xh:Fh t.l e c=(e,Ac,0):=by unfold Fh;grind
    unfold EM;grind
   rw[U];refine⟨λ_=> ?_,P⟩;let⟨xi,J,j,xp⟩:=X
   let⟨xl,xf,H⟩:=j.WA p
   rw[Ba E]at H;have yl:DW [.b L]=A (.b Ac):=B;let⟨xB,yC,xu,yb⟩:=mL I r X P P xO p xe q xQ xW E s
   have xw:Do (Gp t.l e c).1 u:=by
    let⟨yB,xv,xC⟩:=r.next p E
    unfold Gp;simp only[xv.next,Aif];refine Y.AM xC (Ns _ _ _ _).1 ?_;exact YP _ _ _ _
   refine⟨xB,u,?_,xu.sub P,xw,P⟩;rw[xr N,EF.2.2.2.2.2.2.2.2.2.2.2.1];simp only[L_,Int.reduceEq,x1,xb,N,QB,j.N,xf,H,Ai2,yl];omega
end
theorem gE{f g:AP}(a:D4 f g)(b c d:F):K6 g b c d=K6 f b c d:=by unfold K6;rw[a.A4,a.AN,a.Ao,a.As]
section
variable{t:Fu} {h:G} {e:Ah} {v:C (C (C K))} {u:Aa->Prop}
theorem uy(m:Bj t.l)(E:Bn t.l e)(J:Bx t h e v 0 u)(xd:Do e v){a:D}(g:a<e.T.l):((Eb t.l e a).2.2=0->∃j G,W9 (Ar 135) [.p t.x 0,.n a] h=A (.b (Eb t.l e a).2.1,j)/\Bx t j (Eb t.l e a).1 G 0 u/\Do (Eb t.l e a).1 G/\BD u h j)/\((Eb t.l e a).2.2≠0->∃j xA G xf,W9 (Ar 135) [.p t.x 0,.n a] h=A (.b xf,j)/\Bx t j xA G (Eb t.l e a).2.2 u/\BD u h j):=by
 have yd:∀b,u b->Lv h b:=λb o=>J.Dy o;let⟨yo,i,N,yb⟩:=J
 let⟨x3,xK,xS⟩:=N.X7 g
 have xT:=N.cv;let⟨d,W,xI,xF,xo,V,yh,yk⟩:=box h (.I 7 (E0 i e a))
 let⟨x0,xU⟩:=F0 h (b:=7) [.n 0,.n 0,.n 0,.n 0,.sn,.sn,.sn] (c:=E0 i e a) xI xF B (X8 N g)
 have xm:W.AA d 1=A (.n (e.at a).AN):=AJ V 1;have xb:Bx t W e v 0 (λb=>u b\/b=d):=(J.V xo).sub P;by_cases o:(e.at a).AN= -1
 .have w:Eb t.l e a=(e,Ac,0):=by
   unfold Eb
   grind
  rw[w]
  refine⟨λ_=>⟨W,v,Bd B B ?_,xb.sub P,xd,P⟩,P⟩
  have x6:(-1)<0:=by omega
  rw[o]at xm
  rw[EF.1]
  simp only[L_,H (Fp t.x), *]
 .let⟨yl,yf,x4,yj,x1,xq,ye⟩:=E.up g o
  let⟨yg,c,I⟩:=E.W.sh.Bw a _ (Cu g)
  have xz:¬(e.at a).AN<0:=by rw[xq.2.1];omega
  let⟨ya,q,xL,xp,xE,xt⟩:=uZ m E xb P (T:=i (.Ap a)) (U:=i (.AB a)) (W:=i (.AI a)) V g o I
  have xk:=(Vj (c:=t.l) (Cu g)).1;have F:=XN E g;have Z:=(xk.Tu g).1;have x:a<(Cl t.l e a).1.T.l:=by rw[xk.AX];grind
  have xj:((Cl t.l e a).1.at a).AN≠-1:=by rw[Z.AN];grind
  have xr:Do (Cl t.l e a).1 v:=by
   unfold Cl;simp only[];split;.grind
   .exact xd.AM g (Ns _ _ _ _).1 (YP _ _ _ _)
  have y:=I.BG Z;let⟨b,p,xf,yi,r,z,xH⟩:=F.up x xj
  let⟨xP,xO,xQ,xR,ym,yn⟩:=r.E_ m y
  let⟨f,T,xM,k,xe,xu⟩:=Aay m F xp xr (.j B) x z xH r.lt y xE (r.GA m F z Ac) (λxY xJ=>⟨xP,xQ,by omega⟩) (λxY xJ=>⟨xO,xR,by omega⟩) (.p d 0) (Cl t.l e a).2
  unfold bX at xM k xe;have x8:Et t.l (Cl t.l e a).1 a=((Cl t.l e a).1.AM b (B7 (DN t.l ((Cl t.l e a).1.at a)) p ⟨((Cl t.l e a).1.at a).As,Ac,L⟩ ((Cl t.l e a).1.at b) c.Bs.l).1,(B7 (DN t.l ((Cl t.l e a).1.at a)) p ⟨((Cl t.l e a).1.at a).As,Ac,L⟩ ((Cl t.l e a).1.at b) c.Bs.l).2):=by unfold Et;simp only[z.2.1,z.2.2,Aif,y.BB]
  have xl:=(VJ (b:=t.l) (Cu x) r.AN r.Cp).1;have xa:=(xl.Tu x).1;let⟨xw,R⟩:=aN (DN t.l ((Cl t.l e a).1.at a)) p ⟨((Cl t.l e a).1.at a).As,Ac,L⟩ ((Cl t.l e a).1.at b) c.Bs.l
  have xn:xx W9 135 [.p t.x 0,.n a] h=jj W9 135 12 [.p d 0,.p t.x 0,.n a,.p q 0,.b ((GB (DN t.l ((Cl t.l e a).1.at a)) p ⟨((Cl t.l e a).1.at a).As,Ac,L⟩ ((Cl t.l e a).1.at b) c.Bs.l).2.1||(Cl t.l e a).2)] f:=by rw[EF.1];simp only[↓x0,↓Q,↓QT,Aic,↓H (Fp t.x),↓H xT,↓H xK,↓H xS,↓H xU,↓H xm,xz];rw[xL,EF.2.2.1];grind
  have xi:f.N q=A (.I 5 (Ab.c c)):=by grind
  let⟨yp,x2,s,yc⟩:=k
  have x5:Ch t.l (e.at a)=c:=I.BB;by_cases S:(B7 (DN t.l ((Cl t.l e a).1.at a)) p ⟨((Cl t.l e a).1.at a).As,Ac,L⟩ ((Cl t.l e a).1.at b) c.Bs.l).2.2=0
  .rw[(xw S)]at k xe s xn;rw[S]at k s;have xc:Bx t f (Et t.l (Cl t.l e a).1 a).1 T 0 (λb=>(u b\/b=d)\/b=q):=by grind
   have xV:xx W9 135 [.p t.x 0,.n a] h=jj W9 135 12 [.p d 0,.p t.x 0,.n a,.p q 0,.b ((Et t.l (Cl t.l e a).1 a).2.1||(Cl t.l e a).2)] f:=by grind
   have xZ:=s.N;by_cases xg:c.A6.l=0
   .have w:Eb t.l e a=((Et t.l (Cl t.l e a).1 a).1,(Cl t.l e a).2||(Et t.l (Cl t.l e a).1 a).2.1,0):=by
     unfold Eb
     grind
    rw[w]
    refine⟨λ_=>⟨f,T,Bd B B ?_,xc.sub P,P,P⟩,P⟩
    have xh:(c.A6.l:K)=0:=by omega
    rw[xV,EF.2.2.2.2.2.2.1]
    simp only[L_,xi,Ek AH.c c.A6,xh,QB]
    grind
   .have w:Eb t.l e a=((EM t.l (Et t.l (Cl t.l e a).1 a).1 a).1,((Cl t.l e a).2||(Et t.l (Cl t.l e a).1 a).2.1)||(EM t.l (Et t.l (Cl t.l e a).1 a).1 a).2.1,(EM t.l (Et t.l (Cl t.l e a).1 a).1 a).2.2):=by
     unfold Eb
     grind
    rw[w]
    have xG:a<(Et t.l (Cl t.l e a).1 a).1.T.l:=by rw[xl.AX];grind
    have xD:f.N d=A (.I 7 (K6 ((Et t.l (Cl t.l e a).1 a).1.at a) (i (.Ap a)) (i (.AB a)) (i (.AI a)))):=by rw[gE xa,gE Z];exact(xu d P).t ((xt d P).t V)
    let⟨xW,xX⟩:=AeS m (Yo m F x xj) xc P P P xD xG (by rw[xa.AN];grind) (y.BG xa) xi xg ((Et t.l (Cl t.l e a).1 a).2.1||(Cl t.l e a).2)
    have xh:¬(c.A6.l:K)=0:=by omega
    have x9:jj W9 135 12 [.p d 0,.p t.x 0,.n (a:K),.p q 0,.b ((Et t.l (Cl t.l e a).1 a).2.1||(Cl t.l e a).2)] f=jj W9 135 11 [.p d 0,.p t.x 0,.n (a:K),.p q 0,.b ((Et t.l (Cl t.l e a).1 a).2.1||(Cl t.l e a).2)] f:=by rw[EF.2.2.2.2.2.2.1];simp only[L_,H (Ek AH.c c.A6),QB, *]
    constructor
    .intro Y;let⟨X,U,xN,M,xs,xv⟩:=xW Y
     refine⟨X,U,Bd B B ?_,M.sub P,xs,P⟩;grind
    .intro Y;let⟨X,xB,U,xy,xN,M,xv⟩:=xX Y
     refine⟨X,xB,U,xy,Bd B B ?_,M.sub P,P⟩;grind
  .let⟨x7,R⟩:=R S
   rw[R]at k s;have xC:(Et t.l (Cl t.l e a).1 a).2.2=6:=by grind
   unfold Eb;simp only[];rw[Ad o,Af (by grind),xC];refine⟨Om,λ_=>⟨f,_,T,(GB (DN t.l ((Cl t.l e a).1.at a)) p ⟨((Cl t.l e a).1.at a).As,Ac,L⟩ ((Cl t.l e a).1.at b) c.Bs.l).2.1||(Cl t.l e a).2,Bd B B ?_,k.sub P,P⟩⟩;have xZ:=s.N;rw[xn,EF.2.2.2.2.2.2.1];by_cases xg:(c.A6.l:K)=0;.simp only[L_,H (Ek AH.c c.A6),QB, *]
   .simp only[L_,Int.reduceEq,H (Ek AH.c c.A6),QB, *]
end
section
variable{t:Fu} {h:G} {e:Ah} {v:C (C (C K))} {w:K} {u:Aa->Prop}
theorem Bx.Je(d:Bx t h e v w u):∃c,h.AA t.x 1=A c/\Ea [c]=A (.n e.T.l)/\h.AA t.x 7=A (.n w):=by
 let⟨i,f,a,g⟩:=d
 have b:=C4 (a.D8 .T);rw[Aip]at b;exact⟨f .T,a.cv,b,AJ a.N 7⟩
theorem gV(c:Bx t h e v w u){a:D}(g:e.T.l<=a\/w≠0)(b:Ak):jj W9 89 9 [.n a,.b b,.p t.x 0] h=jj W9 89 8 [.b b,.p t.x 0] h:=by
 let⟨k,_,i,j⟩:=c.Je
 rw[Hi.2.2.2.2.1];by_cases d:a<(e.T.l:K)
 .have f:¬w=0:=by grind
  simp only[QY,H _,QB, *]
 .simp only[QY,H _,QB, *]
theorem k_(o:Bj t.l){c:D}(V:c=400){b:Ah}(y:Bn t.l b):∀(f a:D){h:G}{v:C (C (C K))},a+f=c->(Cb t.l b a).2.2=0->Bx t h (Cb t.l b a).1 v 0 u->Do (Cb t.l b a).1 v->((Cb t.l b c).2.2=0->∃d l,jj W9 89 9 [.n a,.b (Cb t.l b a).2.1,.p t.x 0] h=jj W9 89 8 [.b (Cb t.l b c).2.1,.p t.x 0] d/\Bx t d (Cb t.l b c).1 l 0 u/\Do (Cb t.l b c).1 l/\BD u h d)/\((Cb t.l b c).2.2≠0->∃d R l Q,jj W9 89 9 [.n a,.b (Cb t.l b a).2.1,.p t.x 0] h=jj W9 89 8 [.b Q,.p t.x 0] d/\Bx t d R l (Cb t.l b c).2.2 u/\BD u h d)
 |f,a,h,v,xb,T,j,s=>by
  have z:=SN o y a;have xc:=z.W.sh.AX;by_cases F:a<(Cb t.l b a).1.T.l
  .cases f with
   |zero=>omega
   |succ f=>
    let⟨X,Y⟩:=uy o z j s F
    have M:Cb t.l b (a+1)=((Eb t.l (Cb t.l b a).1 a).1,(Cb t.l b a).2.1||(Eb t.l (Cb t.l b a).1 a).2.1,(Eb t.l (Cb t.l b a).1 a).2.2):=by
     rw[PB,Ad]
     rintro(g|g)
     .grind
     .grind
    let⟨xj,xe,xd,xf⟩:=j.Je
    have I:a<((Cb t.l b a).1.T.l:K):=by omega
    by_cases p:(Eb t.l (Cb t.l b a).1 a).2.2=0
    .let⟨m,q,W,n,Z,x⟩:=X p
     have U:(Cb t.l b (a+1)).2.2=0:=by grind
     have N:Bx t m (Cb t.l b (a+1)).1 q 0 u:=by grind
     have P:Do (Cb t.l b (a+1)).1 q:=by grind
     have xg:jj W9 89 9 [.n (a:K),.b (Cb t.l b a).2.1,.p t.x 0] h=jj W9 89 9 [.n ((a+1:D):K),.b (Cb t.l b (a+1)).2.1,.p t.x 0] m:=by rw[Hi.2.2.2.2.1,M];simp only[QY,H (Fp t.x),I,QB,Hi.2.2.2.2.2.1,MB,Hi.2.2.2.2.2.2.1,H (BF (a:=a) (by omega)), *];rw[Bool.or_comm]
     let⟨xh,xi⟩:=k_ o V y f (a+1) (by omega) U N P
     constructor;.grind
     .grind
    .have J:(Cb t.l b (a+1)).2.2≠0:=by grind
     have r:=WQ (.i J) c (by omega);rw[r];refine⟨λg=>A_ g J,λ_=> ?_⟩;let⟨m,xa,q,E,W,n,x⟩:=Y p
     have S:=gV n (a:=a+1) (.j p) (E||(Cb t.l b a).2.1);refine⟨m,_,_,E||(Cb t.l b a).2.1,?_,by rw[M];exact n,x⟩;rw[<-S,Hi.2.2.2.2.1];simp only[QY,H _,I,QB,Hi.2.2.2.2.2.1,MB,Hi.2.2.2.2.2.2.1,H (BF (a:=a) (by omega)), *]
  .have r:=WQ (.j F) c (by omega);rw[r];refine⟨λ_=>⟨h,v,gV j (.i (by omega)) _,j,s,λ_ _=>B⟩,λg=>A_ T g⟩
theorem gU(b:Bx t h e v w u)(a:Ak)(d:a=Ac\/w≠0):jj W9 89 8 [.b a,.p t.x 0] h=jj W9 89 7 [.p t.x 0] h:=by
 let⟨i,_,f,g⟩:=b.Je
 rw[Hi.2.2.1]
 cases a with
 |false=>simp only[↓Q,↓QT,Aic,QB]
 |true=>
  have c:¬w=0:=by grind
  simp only[QY,QB, *]
theorem iW(r:Bj t.l){g:D}(N:g=400):∀{P:D}{e:Ah}{d:Ah×K}{h:G}{v:C (C (C K))},He t.l g P e=A d->Bn t.l e->Bx t h e v 0 u->Do e v->(d.2=0->∃f n,jj W9 89 8 [.b L,.p t.x 0] h=jj W9 89 7 [.p t.x 0] f/\Bx t f d.1 n 0 u/\Do d.1 n/\BD u h f)/\(d.2≠0->∃f S n,jj W9 89 8 [.b L,.p t.x 0] h=jj W9 89 7 [.p t.x 0] f/\Bx t f S n d.2 u/\BD u h f)
 |0,e,d,h,v,a,x,p,I=>by cases a
 |P+1,e,d,h,v,a,x,p,I=>by
  let⟨xd,xb,xa,xc⟩:=p.Je
  have o:jj W9 89 8 [.b L,.p t.x 0] h=jj W9 89 9 [.n 0,.b Ac,.p t.x 0] h:=by rw[Hi.2.2.1];simp only[QY,QB,Hi.2.2.2.1, *]
  let⟨W,X⟩:=k_ (u:=u) r N x g 0 (by omega) B p I
  unfold He at a;by_cases j:(Cb t.l e g).2.2=0
  .rw[Ad (λc=>c j)]at a;let⟨E,M,b,i,J,k⟩:=W j
   have b:=b;by_cases y:(Cb t.l e g).2.1=L
   .rw[Af y]at a;rw[y]at b;let⟨Y,Z⟩:=iW r N a (SN r x g) i J
    constructor
    .intro c;let⟨F,z,H,q,Q,s⟩:=Y c
     exact⟨F,z,(o.t b).t H,q,Q,λm l=>(s m l).t (k m l)⟩
    .intro c;let⟨F,U,z,H,q,s⟩:=Z c
     exact⟨F,U,z,(o.t b).t H,q,λm l=>(s m l).t (k m l)⟩
   .rw[Ad y]at a;cases a
    have V:=gU i (Cb t.l e g).2.1 (.i (by grind));exact⟨λ_=>⟨E,_,(o.t b).t V,i,J,k⟩,λc=>A_ B c⟩
  .rw[Af j]at a;cases a
   refine⟨λc=>A_ c j,λ_=> ?_⟩;let⟨E,T,M,R,b,i,k⟩:=X j
   have b:=b;exact⟨E,T,M,(o.t b).t (gU i R (.j j)),i,k⟩
end
section
variable{t:Fu} {h:G} {e:Ah} {v:C (C (C K))} {y:K} {u:Aa->Prop}
def PL(a:Ak):K:=if a=L then 6 else 0
theorem AbF(S:Bj t.l)(p:Bx t h e v y u){a n:D}(xa:a<e.T.l){I:D}{x:Ab}(b:DU t.l I x (e.at a)){c:AD}(d:x.Ay[n]? =A c):∃G,jj W9 89 5 [.n n,.n a,.p t.x 0] h=jj W9 89 4 [.n n,.n a,.p t.x 0] G/\Bx t G e v (if Gy (e.at a) c=L then 6 else y) u/\BD u h G:=by
 have r:=(S.A4 I x b.hb).Ao n c d;have xo:=r.some S;have xt:∀J,u J->Lv h J:=λJ xl=>p.Dy xl;let⟨xn,xe,T,xs⟩:=p
 let⟨xc,g,xz,xb,R,xp⟩:=YM T xa ⟨⟨I,b.ha,b.hb⟩,d⟩ (b.Dj r.AT) (by omega)
 have s:=T.ext R;have q:=p.ext R;have xB:=s.N;let⟨j,xx,xg,_⟩:=s.Cy xa
 rw[b.ha]at xg;unfold Gy;by_cases E:c.op=6
 .have X:=r.KU (.j (.i E));let⟨xh,xj⟩:=Bo (b:=c.AT) (a:=0) (by omega)
  let⟨xi,xk⟩:=Bo (b:=c.AT) (a:=1) (by omega)
  rw[Be E,Ai5,xj,xk,Aiz,Aiz];generalize xu:A9 (e.at a) xh=N;generalize xv:A9 (e.at a) xi=Q;have Y:(c.AT.m (A9 (e.at a)))[0]? =A N:=by grind
  have Z:(c.AT.m (A9 (e.at a)))[1]? =A Q:=by grind
  let⟨k,U⟩:=Dm (f:=M.c) (w:=2) (λ_=>B) xb Y
  let⟨m,V⟩:=Dm (f:=M.c) (w:=2) (λ_=>B) xb Z
  have xw:AZ 2 [xc,.n 0]=A (.p k (0*2)):=U.ia;have xq:Bt 0 [.p k (0*2)]=A (.p k (0*2+0)):=by rw[F6]
  have xC:AW g [.p k (0*2+0)]=A (.i .u8 N.Ai):=by exact(U.AA (f:=M.c) (w:=2) (λ_=>B) Y (b:=0) (by omega))
  have xy:AZ 2 [xc,.n 1]=A (.p m (1*2)):=V.ia;have xr:Bt 0 [.p m (1*2)]=A (.p m (1*2+0)):=by rw[F6]
  have xD:AW g [.p m (1*2+0)]=A (.i .u8 Q.Ai):=by exact(V.AA (f:=M.c) (w:=2) (λ_=>B) Z (b:=0) (by omega))
  by_cases z:N.Ai=0;.rw[Be z,Ad (by grind)];refine⟨g,?_,q,P⟩;rw[Hi.2.2.2.2.2.2.2.2.2.2.2.1];simp only[QY,H (Fp t.x),H (H4 j a 0),H (Da b.hb),H (Gq d),QB, *]
  .by_cases W:Q.Ai=0;.rw[Ba z,Be W,Ad (by grind)];refine⟨g,?_,q,P⟩;rw[Hi.2.2.2.2.2.2.2.2.2.2.2.1];simp only[QY,H (Fp t.x),H (H4 j a 0),H (Da b.hb),H (Gq d),QB, *]
   .rw[Ba z,Ba W,Af (by rfl)];let⟨X,xE,xf,xd⟩:=s.S1 6
    let⟨xm,xA⟩:=xd.FQ (by grind) (b:=u) P
    refine⟨X,?_,⟨xn,xe,xf,xm⟩,P⟩;rw[Hi.2.2.2.2.2.2.2.2.2.2.2.1];simp only[QY,H (Fp t.x),H (H4 j a 0),H (Da b.hb),H (Gq d),QB, *]
 .rw[Ba E,AjA,Ad (by grind)];refine⟨g,?_,q,P⟩;rw[Hi.2.2.2.2.2.2.2.2.2.2.2.1];simp only[QY,H (Fp t.x),H (H4 j a 0),H (Da b.hb),H (Gq d),QB, *]
theorem mM{f:Type}{b:C _}{a:D}{d:f}(h:b[a]? =A d)(c:f->Ak):(b.t (a+1)).any c=((b.t a).any c||c d):=by rw[<-Gv h,List.any_append];simp
theorem AbL(E:Bj t.l)(p:Bx t h e v 0 u){a:D}(x:a<e.T.l){N:D}{b:Ab}(o:DU t.l N b (e.at a)):∃c,jj W9 89 3 [.n 0,.n a,.p t.x 0] h=jj W9 89 2 [.n a,.p t.x 0] c/\Bx t c e v (PL (b.Ay.any (Gy (e.at a)))) u/\BD u h c:=by
 have xe:=(E.A4 N b o.hb).Ay;have Q:∀{h:G}{y:K}(_:Bx t h e v y u),∃d l m,h.AA t.x 1=A m/\AZ 7 [m,.n a]=A (.p d (a*7))/\AW h [.p d (a*7+6)]=A l/\Ea [l]=A (.n b.Ay.l):=λ{h y} p=>by
  let⟨xf,xa,r,xd⟩:=p
  let⟨d,k,_,_,_,_,_,_,j⟩:=r.Cy x
  have g:=C4 (r.D8 (.AI a) x);rw[o.AI]at g;exact⟨d,_,_,r.cv,k,j,g⟩
 let⟨⟨⟩,c,w,q,U⟩:=Ez (h:=b.Ay.l) (f:=λf _ h=>jj W9 89 3 [.n f,.n a,.p t.x 0] h) (g:=λf _ c=>Bx t c e v (PL ((b.Ay.t f).any (Gy (e.at a)))) u/\BD u h c)
  (λf _ xc J T=>by
   let⟨z,Y⟩:=T
   let⟨R,M⟩:=Bo J
   let⟨d,l,m,S,k,j,g⟩:=Q z
   let⟨V,W,X,Z⟩:=AbF E z x o M
   refine⟨(),V,?_,?_,P⟩;.show jj W9 89 3 _ _=jj W9 89 3 _ _;rw[Hi.2.2.2.2.2.2.2.2.2.2.1];simp only[QY,S,k,j,g,(Dx J)];rw[W,Hi.2.2.2.2.2.2.2.2.2.2.2.2];simp only[↓H (BF (a:=f) (by omega))]
   .rw[mM M];have:PL ((b.Ay.t f).any (Gy (e.at a))||Gy (e.at a) R)=if Gy (e.at a) R=L then 6 else PL ((b.Ay.t f).any (Gy (e.at a))):=by unfold PL;grind
    grind)
  (b:=()) (a:=h) ⟨by rw[Aku];exact p,P⟩
 have w:jj W9 89 3 [.n 0,.n a,.p t.x 0] h=jj W9 89 3 [.n b.Ay.l,.n a,.p t.x 0] c:=w;rw[HV]at q;let⟨d,l,m,S,k,j,g⟩:=Q q
 have xb:=Dz b.Ay.l;refine⟨c,?_,q,U⟩;rw[w,Hi.2.2.2.2.2.2.2.2.2.2.1];simp only[QY,H (Fp t.x),H (H4 d a 6), *]
theorem br(b:Bx t h e v y u){a:D}(f:e.T.l<=a\/y≠0):jj W9 89 1 [.p t.x 0,.n a] h=A (.AC [],h):=by
 let⟨j,_,g,i⟩:=b.Je
 rw[Hi.2.2.2.2.2.2.2.1];by_cases c:a<(e.T.l:K)
 .have d:¬y=0:=by grind
  simp only[QY,H _,QB, *]
 .simp only[QY,H _,QB, *]
def U4(b:C Ab)(a:AP):Ak:=(Ch b a).Ay.any (Gy a)
theorem ks(o:Bj t.l)(f:Dk t.l e):∀(g a:D){h:G},a+g=e.T.l->(e.T.t a).any (U4 t.l)=Ac->Bx t h e v 0 u->∃k,jj W9 89 1 [.p t.x 0,.n a] h=A (.AC [],k)/\Bx t k e v (LY t.l e) u/\BD u h k
 |0,a,h,x,m,b=>by
  have:a=e.T.l:=by omega
  subst this;rw[HV]at m;have j:LY t.l e=0:=by unfold LY;rw[Ad];intro q;have q:e.T.any (U4 t.l)=L:=q;grind
  rw[j];exact⟨h,br b Om,b,P⟩
 |g+1,a,h,x,m,b=>by
  have l:a<e.T.l:=by omega
  have V:=f.AX;let⟨X,d,n⟩:=f.Bw a _ (Cu l)
  let⟨p,z,c,r⟩:=AbL o b l n
  let⟨Y,F,E,I⟩:=b.Je
  have s:a<(e.T.l:K):=by omega
  have N:jj W9 89 1 [.p t.x 0,.n (a:K)] h=jj W9 89 1 [.p t.x 0,.n ((a+1:D):K)] p:=by rw[Hi.2.2.2.2.2.2.2.1];simp only[QY,F,E,s,I,QB,Hi.2.2.2.2.2.2.2.2.1];rw[z,Hi.2.2.2.2.2.2.2.2.2.1];simp only[↓H (BF (a:=a) (by omega))]
  have w:U4 t.l (e.at a)=d.Ay.any (Gy (e.at a)):=by unfold U4;rw[n.BB]
  have Q:=mM (Cu l) (U4 t.l);rw[m,AjE,w]at Q;by_cases T:d.Ay.any (Gy (e.at a))=L
  .have j:LY t.l e=6:=by
    unfold LY
    rw[Af]
    show e.T.any (U4 t.l)=L
    grind
   have M:PL (d.Ay.any (Gy (e.at a)))=6:=by unfold PL;grind
   rw[M]at c
   rw[j]
   exact⟨p,N.t (br c Om),c,r⟩
  .have J:PL (d.Ay.any (Gy (e.at a)))=0:=by unfold PL;grind
   rw[J]at c;let⟨U,W,R,S⟩:=ks o f g (a+1) (by omega) (by grind) c
   grind
theorem iy(g:Bj t.l){m q:D}(E:m=400){b:Ah×K}(k:Hf t.l m q e=A b)(o:Bn t.l e)(s:Bx t h e v 0 u)(w:Do e v):(b.2=0->∃a d,W9 (Ar 89) [.p t.x 0] h=A (.AC [],a)/\Bx t a b.1 d 0 u/\Do b.1 d/\BD u h a)/\(b.2≠0->∃a x d,W9 (Ar 89) [.p t.x 0] h=A (.AC [],a)/\Bx t a x d b.2 u/\BD u h a):=by
 unfold Hf at k
 cases j:He t.l m q e with
 |none=>grind
 |some r=>
  rw[j]at k;cases k
  let⟨G,H⟩:=iW g E j o s w
  by_cases i:r.2=0
  .rw[Ad Om];let⟨f,p,l,c,J,n⟩:=G i
   let⟨P,F,I,M⟩:=ks g (cA g o j).W.sh r.1.T.l 0 (by omega) (by grind) c
   have Q:=Bd B B (by rw[Hi.1,l,Hi.2.1];exact F);grind
  .rw[Af i];refine⟨Om,λ_=> ?_⟩;let⟨f,z,p,l,c,n⟩:=H i
   have N:jj W9 89 1 [.p t.x 0,.n 0] f=A (.AC [],f):=br c Om;exact⟨f,z,p,Bd B B (by rw[Hi.1,l,Hi.2.1];grind),c,n⟩
end
theorem ea{h t:G}{a:Aa}(e:Eg (h.N a)=Eg (t.N a))(b c:D):h.AU a b c=t.AU a b c/\h.AA a b=t.AA a b:=by
 constructor;.unfold G.AU G.I;rw[e]
 .unfold G.AA G.I;rw[e]
theorem Ro.Kv{h:G}{q:F}{a:C M}(I:Ro h q M.c 2 a){i:D}{m:M}(j:a[i]? =A m):∃d,AZ 2 [q,.n i]=A (.p d (i*2))/\h.AU d (i*2) 2=A (M.c m)/\AW h [.p d (i*2+0)]=A (.i .u8 m.Ai):=by
 rcases I with⟨_,rfl⟩|⟨d,r,rfl,x,N⟩;.grind
 .have J:AF (h.set d (.I (a.l*2) (a.f M.c))) (.Z d 0 a.l (a.l+1) 2) M.c 2 a:=.j ⟨d,a.l+1,B,.j B,by rw[AY,Af B],by grind⟩;let⟨g,l⟩:=Dm (f:=M.c) (w:=2) (λ_=>B) J j
  have E:=OT _ l.nb;subst E;have p:Eg (h.N g)=Eg ((h.set g (.I (a.l*2) (a.f M.c))).N g):=by rw[AY,Af B,x];rfl
  have H:=(Aid.1 j).1;refine⟨g,?_,by rw[(ea p _ _).1];exact l.AU (f:=M.c) (λ_=>B) j,?_⟩;.have:=hr (b:=2) (d:=g) (e:=0) (c:=a.l) (f:=r) (g:=.n) H;rw[Aix]at this;grind
  .show h.AA g (i*2+0)=_;rw[(ea p _ 0).2];have:=l.AA (f:=M.c) (w:=2) (λ_=>B) j (b:=0) (by omega);exact this
section
variable{v:Fu} {h t:G} {e:Ah} {s:C (C (C K))} {y:K} {u:Aa->Prop}
theorem mR{b:C BM}(xk:b.l<1000000):∀(k c:D){h:G}{e:Ah},c+k=b.l->Bx v h e s y u->(∀a∈b,Ju e a)->e.T.l<=400->∃t,jj W9 145 1 [.p v.x 0,Z BM.c b,.n c] h=A (.AC [],t)/\Bx v t ((b.d c).foldl GW e) s y u/\BD u h t
 |0,c,h,e,xh,r,q,xi=>by
  have:c=b.l:=by omega
  subst this;have Y:=Dz b.l;refine⟨h,?_,by grind,λ_ _=>B⟩;rw[N6.2.2.2.1];simp only[↓Q,↓QT,Aic,↓H (Ek BM.c b),Y]
 |k+1,c,h,e,xh,r,q,xi=>by
  have n:c<b.l:=by omega
  let⟨a,o⟩:=Bo n
  let⟨d,f,E,m,x,xC,xF,xG,xq,F,xr⟩:=q a (Ail o)
  have l:d<e.T.l:=by grind
  have xa:=DM xq;subst xa;have N:=r;let⟨xv,j,g,xg⟩:=N
  have xu:=g.cv;let⟨xB,xl,_,_,_,_,_,X,_⟩:=g.Cy l
  let⟨V,xm,xw⟩:=g.E_ l F
  have xx:AW h [.p V (f*1)]=A (j (.Aw d f)):=xw;let⟨U,xD,p,_,_,xy,T,R⟩:=g.Q9 l F xr a.v
  have p:AZ 2 [j (.Aw d f),.n 0]=A (.p U (0*2)):=p;let⟨xs,xt⟩:=R.FQ (by grind) xg
  have xn:AZ 3 [Z BM.c b,.n c]=A (.pi (BM.c a)):=Fi o B;have xd:Bt 0 [.pi (BM.c a)]=A (.pi ((BM.c a).d 0)):=B;have xo:AW h [.pi ((BM.c a).d 0)]=A (.n (1000*d+f:D)):=by rw[<-E];rfl
  have xe:Bt 1 [.pi (BM.c a)]=A (.pi ((BM.c a).d 1)):=B;have xp:Bf 2 h [.pi ((BM.c a).d 1)]=A (.S (M.c a.v)):=B;have xb:=lq x m;have xc:=lM x m;have w:GW e a=e.Aw d f 0 a.v:=al E m;have W:=Dx n;let⟨xf,xE,P,S⟩:=mR xk k (c+1) (by omega) ⟨xv,j,T,xs⟩ (λxz xj=>by rw[<-w];exact(q xz xj).Gx a) (by show(e.AM d _).T.l<=400;rw[D0];grind)
  let⟨xH,J,xA⟩:=Eh n
  rw[o]at J;cases J;rw[xA,Ajp,w];refine⟨xf,?_,P,λI z=>(S I z).t (xt I z)⟩;rw[N6.2.2.2.1];simp only[QY,Ek BM.c b,W,N6.2.2.2.2.1,xu,xn,xd,xo,xb,xl,X,xc,xm,xx,xe,xp,p,xy,N6.2.2.2.2.2,BF (a:=c) (by omega)];grind
end
theorem kq{e:Ah}{a b c:M}:DE e ⟨2,a,b,c,0⟩=if(CD e.Ae a b c).2.2≠0 then(e,AK,(CD e.Ae a b c).2.2)else((CD e.Ae a b c).2.1.foldl GW ⟨e.T,(CD e.Ae a b c).1,e.round,e.Aq⟩,Nd (CD e.Ae a b c).2.2,0):=rfl
theorem Afk{a:C AG}{b c d:M}(h:b.Ai=5\/c.Ai=5):CD a b c d=(a,[],0):=by
 unfold CD;rw[Af];unfold Dp;rcases h with h|h;.grind
 .grind
theorem Yp(a b c:F):Ca 0 [.AC [a,b,c]]=A a:=rfl
theorem Yr(b a c:F):Ca 1 [.AC [b,a,c]]=A a:=rfl
theorem Ys(b c a:F):Ca 2 [.AC [b,c,a]]=A a:=rfl
section
variable{t:Fu} {h:G} {e:Ah} {v:C (C (C K))} {u:Aa->Prop}
theorem Cs.md{d:Aa->Bz}{g:Aa}{j:C _}{c:K}{i:Bz->F}(l:Cs d h j g e v c i)(a:C AG):∃b,A1 1 h [.p g 2,.S (B3 a)]=A (Ax,b)/\Cs d b j g ⟨e.T,a,e.round,e.Aq⟩ v c i/\Fb d h b .E2:=by
 let⟨b,o,n,k⟩:=l.X2 2 (Z AG.c a) (by omega) B B (g:=a) (i:=e.round) (f:=e.Aq) (d:=c) B
 exact⟨b,by rw[show(F.S (B3 a))=.S [Z AG.c a]from B,eB B];grind,n,k⟩
theorem uH(m:Bx t h e v 0 u){j:F}{k:C M}(r:Ro h j M.c 2 k){a b c:M}(xi:k[0]? =A a)(xj:k[1]? =A b)(xk:k[2]? =A c)(V:Gg e.Ae)(xu:BN e.Ae.l a)(xo:e.T.l<=400)(xw:(CD e.Ae a b c).2.1.l<1000000)(xx:∀w∈(CD e.Ae a b c).2.1,Ju e w):((DE e ⟨2,a,b,c,0⟩).2.2=0->∃g,W9 (Ar 145) [.p t.x 0,j] h=A (.AC [],g)/\Bx t g (DE e ⟨2,a,b,c,0⟩).1 v 0 u/\BD u h g)/\((DE e ⟨2,a,b,c,0⟩).2.2≠0->∃g,W9 (Ar 145) [.p t.x 0,j] h=A (.AC [],g)/\Bx t g e v (DE e ⟨2,a,b,c,0⟩).2.2 u/\BD u h g):=by
 let⟨xa,S,xF,xz⟩:=r.Kv xi
 let⟨xb,T,xG,xA⟩:=r.Kv xj
 let⟨xc,U,xH,xB⟩:=r.Kv xk
 have S:AZ 2 [j,.n 0]=A (.p xa (0*2)):=S;have T:AZ 2 [j,.n 1]=A (.p xb (1*2)):=T;have U:AZ 2 [j,.n 2]=A (.p xc (2*2)):=U;rw[kq];have R:∀d,u d->Lv h d:=λd f=>m.Dy f;by_cases xg:a.Ai=5\/b.Ai=5
 .rw[Afk xg];refine⟨λ_=>⟨h,Bd B B ?_,m,λ_ _=>B⟩,λi=>A_ B i⟩;rw[N6.1];by_cases xe:a.Ai=5;.simp only[QY,QB, *]
  .have xf:b.Ai=5:=by grind
   simp only[QY,QB, *]
 .have xe:¬a.Ai=5:=by grind
  have xf:¬b.Ai=5:=by grind
  have W:=m;let⟨s,E,G,xy⟩:=W
  have xK:h.AU t.x 2 1=A (B3 e.Ae):=by rw[EA G.N,Af (by omega),Ad (by omega)];rfl
  have J:=s8 e.Ae V.ok a b c (Q6 xu);let⟨i,N,xp,xn,l,xl,xD,xE⟩:=box h (.I 1 (B3 (CD e.Ae a b c).1))
  let⟨xL,xJ⟩:=F0 h (b:=1) [.sn] (c:=B3 (CD e.Ae a b c).1) xp xn B B
  have xI:N.AU i 0 1=A (B3 (CD e.Ae a b c).1):=B2 xl;have I:=G.ext l;have Q:∀d,u d->Lv N d/\s d=.DK:=by grind
  by_cases q:(CD e.Ae a b c).2.2=0
  .rw[Ad (λxt=>xt q)];refine⟨λ_=> ?_,λi=>A_ B i⟩;let⟨P,xv,p,o⟩:=I.md (CD e.Ae a b c).1
   let⟨x,y⟩:=o.FQ (by grind) Q
   let⟨xm,xC,z,X⟩:=mR xw (CD e.Ae a b c).2.1.l 0 (by omega) ⟨s,E,p,x⟩ (λw xq=>by
    let⟨xr,xs,Y,Z,xd,xh⟩:=xx w xq
    exact⟨xr,xs,Y,Z,xd,xh.of B⟩) xo
   rw[AiE]at z;refine⟨xm,Bd B B ?_,z,λd f=>(X d f).t ((y d f).t (l.N (R d f)))⟩;rw[N6.1];simp only[QY,QB,N6.2.1,H (VT t.x),J.H B,H (Yp _ _ _),H (Yr _ _ _),H (Ys _ _ _),N6.2.2.1, *];grind
  .rw[Af q];refine⟨λi=>A_ i q,λ_=> ?_⟩;let⟨P,xv,p,o⟩:=I.S1 (CD e.Ae a b c).2.2
   let⟨x,y⟩:=o.FQ (by grind) Q
   refine⟨P,Bd B B ?_,⟨s,E,p,x⟩,λd f=>(y d f).t (l.N (R d f))⟩;rw[N6.1];simp only[QY,QB,N6.2.1,H (VT t.x),J.H B,H (Yp _ _ _),H (Yr _ _ _),H (Ys _ _ _), *]
end
