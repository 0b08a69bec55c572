/- Part of the proof. -/
import Derived.Test.YtbmnfifnenajjaaGreatMbg
set_option linter.all false
noncomputable section
open Option renaming some->A,none->O,getD->Option.g,bind->Option.b
open _root_ renaming rfl->B,List->C,Nat->D,Int->K,if_neg->Ad,if_pos->Af,Option->Ae,Bool->Ah,cond->Aj,decide_eq_true->A0,decide_eq_false->A2,absurd->BF
open Bool renaming true->L,false->Aa
open Decidable renaming decide->Ao
open Nat renaming beq->AW,ble->BX,le_refl->CK
open List renaming replicate->BG,length->List.l,map->List.m,take->List.t,drop->List.d,flatMap->List.f
open Go.IntKind renaming i64->Go.IntKind.n
open Array renaming toList->Array.l
open Eq renaming trans->Eq.t,symm->Eq.s
open Or renaming inl->Or.i,inr->Or.j
open Int renaming toNat->Int.n
namespace Go.Proofs.YtbmnfifnenajjaaGreat
open Go.Fg
theorem e7{g:Type}(c d e b:F)(f:C F)(a:F->Ae g):(CO 3 [.AB (c::d::e::b::f)]).b a=a b:=rfl
def cw{b:G}{d:T}{c:D}{a:F}(f:a.I=[a]):AX 1 b [.p d c,.S [a]]=AX 1 b [.p d c,a]:=by show Aj (Aj (AW (Bq [a]) 1) (BU [a]) Aa) (match b.Ep d c 1 [a]with|some e=>A (AC,e)|none=>O) O=Aj (Aj (AW (Bq a.I) 1) (BU a.I) Aa) (match b.Ep d c 1 a.I with|some e=>A (AC,e)|none=>O) O;grind
open Classical in
def B_.Yh{b:CI}{h g:G}{d:Ai}{E:D->T}{q:T->Prop}(I:B_ b h d E q)(w:AH h g){f:F}{m p:D->F}{n:C AE}(s:CY g f m p n)(W:∀a,Lv h a->¬B8 f m p n.l a):∃i,AX 1 g [.p b.x 3,.S [f]]=A (AC,i)/\B_ b i ⟨d.Ac,n,d.round,d.AA⟩ E (λa=>q a\/(¬Lv h a/\Lv g a/\¬B8 f m p n.l a))/\(∀a,a≠b.x->i.M a=g.M a)/\(∀a,Lv i a=Lv g a)/\Lv h b.x/\∀a,q a->a≠b.x:=by
 obtain⟨H,e,c,rfl,Q⟩:=I;have x:=Gx (d:=3) ((w.M c.lv).t c.M) (by omega) (by omega) (Cr s.o).1 (Cr s.o).2;have N:Dg 3 [f] [Z Ab.c b.l,.m e.r,e.cv,e.mv,.n d.round,.n d.AA]=[Z Ab.c b.l,.m e.r,e.cv,f,.n d.round,.n d.AA]:=B;rw[N]at x;have u:∀a,a≠b.x->(g.set b.x (.I 6 [Z Ab.c b.l,.m e.r,e.cv,f,.n d.round,.n d.AA])).M a=g.M a:=λa j=>by rw[AN,Ad j]
 have y:(g.set b.x (.I 6 [Z Ab.c b.l,.m e.r,e.cv,f,.n d.round,.n d.AA])).M b.x=A (.I 6 [Z Ab.c b.l,.m e.r,e.cv,f,.n d.round,.n d.AA]):=by simp
 have v:∀a,Lv (g.set b.x (.I 6 [Z Ab.c b.l,.m e.r,e.cv,f,.n d.round,.n d.AA])) a=Lv g a:=by grind
 generalize g.set b.x (.I 6 [Z Ab.c b.l,.m e.r,e.cv,f,.n d.round,.n d.AA])=i at x u y v;have X:∀a,q a->a≠b.x:=λa j t=>by have:=(Q a j).2;rw[t,c.B3]at this;grind
 have r:∀k,Lv h k->H k≠.Ex->i.M k=h.M k/\Lv i k:=λk Y l=>⟨(u k (λt=>l (by rw[t];exact c.B3))).t P,by grind⟩;refine⟨i,by rw[cw (Cr s.o).1];grind,⟨λa=>if Lv h a then H a else if B8 f m p n.l a then .Am else .C5,{e with mv:=f,cs:=m,ws:=p},?_,B,?_⟩,u,v,c.lv,X⟩
 .exact{
  M:=y
  lv:=by rw[v];exact w.lv c.lv
  B3:=(Af c.lv).t c.B3
  Bn:=(r e.r c.GM (by rw[c.F0];grind)).1.t c.Bn
  GM:=(r e.r c.GM (by rw[c.F0];grind)).2
  F0:=(Af c.GM).t c.F0
  Ac:=c.Ac.Ar λa j l=>r a j (by rw[c.Ir a l];grind)
  Ir:=λa l=>(Af (c.Ac.Cz l)).t (c.Ir a l)
  Am:=s.Ar λa j S=>⟨u a (λt=>W b.x c.lv (by grind)),by grind⟩
  Is:=λa S=>P
  BC:=λU J R=>(c.BC U J R).Ar λa j z=>by have:=r a j (by intro d;rw[d]at z;exact z);grind}
 grind
def B_.C4{e:CI}{b:G}{f:Ai}{g:D->T}{a:T->Prop}(d:B_ e b f g a){c:T}(h:a c):Lv b c:=by obtain⟨_⟩:=d;grind
def gp{s:CI}{e:G}{b:Ai}{xw:D->T}{I:T->Prop}(J:B_ s e b xw I)(xF:Ft b.Am)(a:ED)(x3:a.op=1\/a.op=2\/a.op=3\/a.op=4)(x6:∀xj∈a.CQ,Ie xj b.Am.l=L)(x2:(BE b.Am a).F1.l<1000000)(yg:∀xi∈(BE b.Am a).F1,IY b xi):∃U,W9 (pos 99) [.p s.x 0,.S a.c8] e=A (.AB [.S (N.c (Eh b a).2.1),.n (Eh b a).2.2],U)/\B_ s U (Eh b a).1 xw I/\Bo I e U:=by
 have xG:=J;obtain⟨yF,xj,xK,rfl,xY⟩:=xG;let⟨xu,V,x4,x0,xC,xR,yc,yC⟩:=box e (.I 8 a.c8)
 let⟨xv,xq,x5,x1,xm,xS,yd,yf⟩:=box V (.I 2 [.i .u8 0,.n 0])
 have xA:∀(d:F->G->R),bl (.p e.next 0) (e.V (.I (Bq (F.I (.S a.c8))) (F.I (.S a.c8)))) d=d (.p xu 0) V:=Dy e (.I 8 a.c8) x4 x0;have xB:=Jp V x5 x1;have x:=xC.AI xm;have xo:=xK.ext x;have xz:xq.AL s.x 3 1=A [xj.mv]:=by rw[D1 xo.M,Af (by omega),Ad (by omega)];rfl
 have xy:xq.AL xu 0 8=A a.c8:=BB ((xm.M yc).t xR);have u:=pv xF xo.Am a x3 x6;by_cases M:(BE b.Am a).e=0
 .let⟨yr,xi,yu,yH,c,xc,y,xn,yh,yv,yw⟩:=u.2 M
  let⟨j,g,xa,Y,r,S,xd,xe⟩:=box c (.I 1 [.sn])
  let⟨f,xX,xb,Z,l,xU,ye,xs⟩:=box g (.I 2 [.i .u8 0,.n 0])
  have xk:∀(d:F->G->R),bl (.p c.next 0) (c.V (.I 1 [.sn])) d=d (.p j 0) g:=Dy c (.I 1 [.sn]) xa Y;have xl:=Jp g xb Z;have w:j≠f:=by grind
  let⟨W,xf,yl,i⟩:=PR ((l.M xd).t S) (Cr xn.o).2
  let⟨n,xg,xx,m⟩:=Gy (b:=W) (a:=f) (f:=[.i .u8 0,.n 0]) (by rw[i,AN,Ad w.symm];grind) (BE b.Am a).v
  have E:=r.AI l;have k:AH c n:=by rw[m,i];exact(E.Gw xe _).Gw P _
  have yp:n.AL j 0 1=A [yr]:=BB (by rw[m,AN,Ad w,i,AN,Af B]);have p:=y.AI k;have xD:=x.AI p;have xJ:=xn.ext k;let⟨t,xh,xH,yE,yA,yB,yD⟩:=J.Yh xD xJ P
  have yi:Aw t xi Bz.c 3 (BE b.Am a).F1:=(yh.ext k).Ar P;let⟨X,yb,xI,yt⟩:=px xH yi P x2 (λyo x7=>by
   let⟨x9,ya,xM,xN,xO,xP⟩:=yg yo x7
   exact⟨x9,ya,xM,xN,xO,xP⟩)
  have yx:n.M f=A (.I 2 (N.c (BE b.Am a).v)):=by rw[m,AN,Af B]
  have xV:X.M f=A (.I 2 (N.c (BE b.Am a).v)):=by grind
  have xT:X.M xv=A (.I 2 [.i .u8 0,.n 0]):=by grind
  have yq:X.AL f 0 2=A (N.c (BE b.Am a).v):=BB xV;let⟨xW,yn,yk,xp⟩:=Gy xT (BE b.Am a).v
  let⟨ym,ys,xL,x8,xZ⟩:=xI
  have o:Eh b a=((BE b.Am a).F1.foldl HY ⟨b.Ac,(BE b.Am a).m,b.round,b.AA⟩,(BE b.Am a).v,0):=by unfold Eh;grind
  have yG:=(xZ xv P).2;refine⟨xW,AZ B B ?_,⟨ym,ys,?_,x8,P⟩,λxt xr=> ?_⟩;.rw[o,aY.1];simp only[↓xA,↓xB,↓xk,↓xl,↓Q,↓e7,↓QT,AdM,↓H xz,↓H xy,↓H xc,↓H xf,↓H xg];rw[aY.2];simp only[QY,yp,xh,yb,yq,yn,yk]
  .rw[o,xp];exact xL.Ar λxt xr yy=>⟨by rw[AN,Ad P],by grind⟩
  .have yz:=(xY xt xr).1;rw[xp,AN,Ad (λb=>yf (by grind))];grind
 .let⟨c,xc,y⟩:=u.1 M
  let⟨j,g,xa,Y,r,S,xd,xe⟩:=box c (.I 1 [.sn])
  let⟨f,xX,xb,Z,l,xU,ye,xs⟩:=box g (.I 2 [.i .u8 0,.n 0])
  have xk:∀(d:F->G->R),bl (.p c.next 0) (c.V (.I 1 [.sn])) d=d (.p j 0) g:=Dy c (.I 1 [.sn]) xa Y;have xl:=Jp g xb Z;have w:j≠f:=by grind
  let⟨W,xf,yl,i⟩:=PR ((l.M xd).t S) (b:=.sn) B
  let⟨n,xg,xx,m⟩:=Gy (b:=W) (a:=f) (f:=[.i .u8 0,.n 0]) (by rw[i,AN,Ad w.symm];grind) AO
  have E:=r.AI l;have k:AH c n:=by rw[m,i];exact(E.Gw xe _).Gw (λu=>xs (r.lv u)) _
  have p:=y.AI k;let⟨t,xh,yj,xQ⟩:=Gy ((p.M yd).t xS) AO
  have xE:AH e t:=by rw[xQ];exact(x.AI p).Gw P _
  have o:Eh b a=(b,AO,(BE b.Am a).e):=by unfold Eh;grind
  refine⟨t,AZ B B ?_,by rw[o];exact J.ext xE,P⟩;rw[o,aY.1];simp only[↓xA,↓xB,↓xk,↓xl,↓Q,↓e7,↓QT,AdM,↓H xz,↓H xy,↓H xc,↓H xf,↓H xg,M,↓H xx,↓H xh,↓H yj]
theorem W4{f k:Type}{d e:f->C k}:∀(a:C f),(∀b∈a,d b=e b)->a.f d=a.f e
 |[],_=>rfl
 |b::a,h=>by rw[Aeh,Aeh,h b (Aey ..),W4 a λj g=>h j (Aez _ g)]
theorem wz(a:D):F_ [.n 0,.b Aa,.b Aa] a=(BG a EQ).f BA.c:=by
 induction a with
 |zero=>rfl
 |succ a b=>show Es [.n 0,.b Aa,.b Aa] (F_ [.n 0,.b Aa,.b Aa] a)=_;rw[KU,b,Ae4,Aeh];rfl
theorem uk(b:T)(a:D)(d:a<=1000000):Gd [(.n 0),(.b Aa),(.b Aa)] 3 16 b [.n a,.n a]=A (.I (a*3) ((BG a EQ).f BA.c),.Z b 0 a (a+1) 3):=by show Aj _ _ O=_;rw[(AdX Om:BX a a=L),(AdX (by show a*16<=100000000000;omega):BX _ GA=L),wz];rfl
theorem u5(b:G)(a:D):Aw (b.V (.I (a*3) ((BG a EQ).f BA.c))) (.Z b.next 0 a (a+1) 3) BA.c 3 (BG a EQ):=by refine .j ⟨b.next,a+1,by grind,P,by grind,P⟩
theorem wA(a:D):F_ [.n 0] a=(BG a 0).f Be:=by
 induction a with
 |zero=>rfl
 |succ a b=>show Es [.n 0] (F_ [.n 0] a)=_;rw[KU,b,Ae4,Aeh];rfl
theorem bn(b:T)(a:D)(d:a<=1000000):Gd [(.n 0)] 1 8 b [.n a,.n a]=A (.I (a*1) ((BG a 0).f Be),.Z b 0 a (a+1) 1):=by show Aj _ _ O=_;rw[(AdX Om:BX a a=L),(AdX (by show a*8<=100000000000;omega):BX _ GA=L),wA];rfl
theorem bN(b:G)(a:D):Aw (b.V (.I (a*1) ((BG a 0).f Be))) (.Z b.next 0 a (a+1) 1) Be 1 (BG a 0):=by refine .j ⟨b.next,a+1,by grind,P,by grind,P⟩
structure M6{j:Type}(w:j->C F)(x:D)(f:T->Bm)(h:G)(v:Bm)(k:D->Bm)(g:F)(b:D->F)(d:C (C j)):Prop where
 o:Aw h g (EE b) 1 (List.range d.l)
 t:Tg f g v
 r:∀(a:D) e,d[a]? =A e->Aw h (b a) w x e/\Tg f (b a) (k a)
theorem M6.Ar{P:Type}{H:P->C _}{N:D}{v J:T->Bm}{h y:G}{x:Bm}{w:D->Bm}{M:F}{I:D->F}{E:C _}(d:M6 H N v h x w M I E)(f:∀a,Lv h a->(v a=x\/∃e,v a=w e)->y.M a=h.M a/\Lv y a/\J a=v a):M6 H N J y x w M I E where
 o:=d.o.Ar λa k b=>⟨(f a k (.i (d.t a b))).1,(f a k (.i (d.t a b))).2.1⟩
 t:=λa b=>(f a (d.o.Cz b) (.i (d.t a b))).2.2.t (d.t a b)
 r:=λe j g=>⟨(d.r e j g).1.Ar λa k b=>⟨(f a k (.j ⟨e,(d.r e j g).2 a b⟩)).1,(f a k (.j ⟨e,(d.r e j g).2 a b⟩)).2.1⟩,λa b=>(f a ((d.r e j g).1.Cz b) (.j ⟨e,(d.r e j g).2 a b⟩)).2.2.t ((d.r e j g).2 a b)⟩
open Classical in
theorem M6.Es{Z:Type}{U:Z->C F}{Y:D}{v:T->Bm}{h:G}{g:Bm}{E:D->Bm}{N:F}{I:D->F}{b:C (C Z)}(Q:M6 U Y v h g E N I b)(xz:∀d,E d≠g)(xy:∀d M,E d=E M->d=M)(xC:b.l<1000000){H:BV}{e:F}{X:C Z}(xh:Aw (h.V H) e U Y X)(xk:∀a,¬As e a->a=h.next)(xD:Fl e=L)(xw:e.I=[e]):
  ∃R j xi,(∀(xb:F×G->Ae (F×G)),((Dq 1 1 (h.V H).next [e]).b λp=>(DN 1 24 (G.V (h.V H) p.1) [N,p.2]).b xb)=xb (R,j))/\M6 U Y xi j g E R (BW I b.l e) (b++[X])/\
   (∀a,Lv h a->v a≠g->j.M a=h.M a/\Lv j a)/\(∀a,Lv h a->xi a=v a):=by
 have xa:AH h (h.V H):=AH.V _ _
 have xe:Lv (h.V H) h.next:=by grind
 have xf:=EX h
 generalize xA:h.V H=xn at xa xh xe
 generalize h.next=W at xk xe xf
 have xt:Aw xn N (EE (BW I b.l e)) 1 (List.range b.l):=by
  rcases(Q.o.ext xa)with M|⟨xl,xm,xp,xq,xr,xs⟩;.exact .i M
  .refine .j ⟨xl,xm,xp,xq,?_,xs⟩;rw[xr];congr 2;refine W4 _ λd J=> ?_;have:=AeU.1 J;show[I d]=[BW I b.l e d];rw[CE (by omega)]
 let⟨R,j,M,xg,xx,xu⟩:=FJ (f:=EE (BW I b.l e)) (w:=1) (b:=b.l) (o:=e) (h:=24) (λ_=>B) (by unfold EE;rw[Ec,DJ];grind) (by unfold EE;rw[Ec];grind) xt (DG (by grind))
 have xo:List.range b.l++[b.l]=List.range (b++[X]).l:=by rw[AdY,AeE,AeX]
 rw[xo]at xg
 have xv:∀a,Lv h a->v a≠g->As N a:=λa V k=>AdS λS=>k (Q.t a S)
 have xc:∀a,Lv h a->v a≠g->j.M a=h.M a/\Lv j a:=P
 have xE:As N W:=AdS λS=>xf (Q.o.Cz S)
 refine⟨R,j,λa=>if Lv h a then v a else if a=W then E b.l else g,by omega,?_,xc,P⟩
 have xj:∀a,Lv h a->(if Lv h a then v a else if a=W then E b.l else g)=v a:=by grind
 exact{
  o:=xg
  t:=λa k=>by grind
  r:=λd xd J=>by
   by_cases xB:d<b.l
   .have J:b[d]? =A xd:=by grind
    have:=Q.r d xd J;rw[CE (by omega)];exact⟨this.1.Ar λa V k=>xc a V (by rw[this.2 a k];grind),λa k=>(xj a P).t (this.2 a k)⟩
   .have:d=b.l:=by
     grind
    subst this
    rw[Ae9 Om,Afc]at J
    cases J
    rw[Ec]
    refine⟨xh.Ar λa V k=> ?_,λa k=> ?_⟩<;>grind}
theorem NU{p:T}{e b g:D}:∀a,¬As (.Z p 0 e b g) a->a=p:=λa f=>by
 by_cases d:p=a;.grind
 .exact BF (EN d) f
section
variable{n:T->Bm} {h:G} {i:D} {p:T} {c:AK} {q s u z:F} {l m:D->F}
theorem C6.iF(g:C6 n h i p c q s u z l m){b:G}{e:Bm}{f:BV}(o:∀a,Lv h a->n a≠e->b.M a=h.M a/\Lv b a):∀⦃a:T⦄⦃d:Bm⦄,Lv h a->n a=d->d≠e->d≠.BC i->(b.set p f).M a=h.M a/\Lv (b.set p f) a:=by
 rintro a _ t rfl r k
 rw[AN,Ad λj=>k (by rw[j];exact g.B3),K9]
 grind
theorem C6.lk(d:C6 n h i p c q s u z l m){g:D}(xa:g<=1000)(W:c.AG.l<1000000):
  ∃S U j t E w,Gd [(.i .u8 0),(.n 0)] 2 16 h.next [.n g,.n g]=A (S,U)/\(∀(r:F×G->R),((Dq 1 1 (h.V S).next [U]).b λp=>(DN 1 24 (G.V (h.V S) p.1) [s,p.2]).b r)=r (j,t))/\AX 1 t [.p p 5,j]=A (AC,E)/\
   C6 w E i p {c with AG:=c.AG++[BG g AO]} q j u z (BW l c.AG.l U) m/\(∀a,Lv h a->n a≠.AG i->a≠p->E.M a=h.M a/\Lv E a)/\∀a,Lv h a->w a=n a:=by
 let⟨j,t,w,X,J,r,k⟩:=M6.Es (H:=.I (g*2) ((BG g AO).f N.c)) ⟨d.AG,d.Jl,d.AD⟩ nofun P W (Tu h g) NU B B
 have T:=r p d.lv (by rw[d.B3];nofun)
 have V:=Gx (d:=5) (a:=j) (T.1.t d.M) (by omega) (by omega) (Cr J.o).1 (Cr J.o).2
 have x:=d.iF (f:=.I 9 (Dg 5 [j] [.n c.Bc,.n c.AP,.n c.Ax,.n c.Az,q,s,u,.n c.next,z])) r
 have Y:=(k p d.lv).t d.B3
 have Q:=J.Ar (J:=w) (y:=t.set p (.I 9 (Dg 5 [j] [.n c.Bc,.n c.AP,.n c.Ax,.n c.Az,q,s,u,.n c.next,z]))) λa f Z=>⟨by rw[AN,Ad P],by grind,B⟩
 refine⟨_,_,j,t,_,w,Ti h.next g (by omega),X,V,⟨by rw[AN,Af B];rfl,by grind,Y,d.An.Ar λa f e=>x f (d.Fr a e) nofun nofun,λa e=>(k a (d.An.Cz e)).t (d.Fr a e),Q.o,Q.t,Q.r,d.AS.Ar λa f e=>x f (d.Fq a e) nofun nofun,λa e=>(k a (d.AS.Cz e)).t (d.Fq a e),d.A4.Ar λa f e=>x f (d.Jk a e) nofun nofun,λa e=>(k a (d.A4.Cz e)).t (d.Jk a e),λH I y=>⟨(d.B1 H I y).1.Ar λa f e=>x f ((d.B1 H I y).2 a e) nofun nofun,λa e=>(k a ((d.B1 H I y).1.Cz e)).t ((d.B1 H I y).2 a e)⟩⟩,λa f e T=> ?_,k⟩
 rw[AN,Ad T,K9];grind
theorem C6.lj(d:C6 n h i p c q s u z l m){g:D}(Z:g<=1000)(V:c.A4.l<1000000):
  ∃Q T j t E w,Gd [(.n 0),(.b Aa),(.b Aa)] 3 16 h.next [.n g,.n g]=A (Q,T)/\(∀(r:F×G->R),((Dq 1 1 (h.V Q).next [T]).b λp=>(DN 1 24 (G.V (h.V Q) p.1) [z,p.2]).b r)=r (j,t))/\AX 1 t [.p p 8,j]=A (AC,E)/\
   C6 w E i p {c with A4:=c.A4++[BG g EQ]} q s u j l (BW m c.A4.l T)/\(∀a,Lv h a->n a≠.A4 i->a≠p->E.M a=h.M a/\Lv E a)/\∀a,Lv h a->w a=n a:=by
 let⟨j,t,w,W,J,r,k⟩:=M6.Es (H:=.I (g*3) ((BG g EQ).f BA.c)) ⟨d.A4,d.Jk,d.B1⟩ nofun P V (u5 h g) NU B B
 have S:=r p d.lv (by rw[d.B3];nofun)
 have U:=Gx (d:=8) (a:=j) (S.1.t d.M) (by omega) (by omega) (Cr J.o).1 (Cr J.o).2
 have x:=d.iF (f:=.I 9 (Dg 8 [j] [.n c.Bc,.n c.AP,.n c.Ax,.n c.Az,q,s,u,.n c.next,z])) r
 have X:=(k p d.lv).t d.B3
 have N:=J.Ar (J:=w) (y:=t.set p (.I 9 (Dg 8 [j] [.n c.Bc,.n c.AP,.n c.Ax,.n c.Az,q,s,u,.n c.next,z]))) λa f Y=>⟨by rw[AN,Ad P],by grind,B⟩
 refine⟨_,_,j,t,_,w,uk h.next g (by omega),W,U,⟨by rw[AN,Af B];rfl,by grind,X,d.An.Ar λa f e=>x f (d.Fr a e) nofun nofun,λa e=>(k a (d.An.Cz e)).t (d.Fr a e),d.AG.Ar λa f e=>x f (d.Jl a e) nofun nofun,λa e=>(k a (d.AG.Cz e)).t (d.Jl a e),λH I y=>⟨(d.AD H I y).1.Ar λa f e=>x f ((d.AD H I y).2 a e) nofun nofun,λa e=>(k a ((d.AD H I y).1.Cz e)).t ((d.AD H I y).2 a e)⟩,d.AS.Ar λa f e=>x f (d.Fq a e) nofun nofun,λa e=>(k a (d.AS.Cz e)).t (d.Fq a e),N.o,N.t,N.r⟩,λa f e S=> ?_,k⟩
 rw[AN,Ad S,K9];grind
end
variable{b:D}{g:G}
def EL(a:G)(d:C F){c:C _}{e:T}(k:a.next=e)(i:a.V (.I b c)=g)(j:c.l=b)(h:BU c=L):(∀f,bl (.p a.next 0) (a.V (.I b d)) f=f (.p e 0) (a.V (.I b d)))/\AX b (a.V (.I b d)) [.p e 0,.S c]=A (AC,g):=by subst k;subst i;exact⟨λ_=>B,ET j h⟩
def Kr(d:C Ab)(a:Ab)(e g f h:K)(c:D):AK:=
 ⟨e,g,f,h,BG a.An.n AO,(a.Av.t c).m λb=>BG (C7 d b).n AO,BG a.Av.l 0,-1,(a.Av.t c).m λb=>BG (C7 d b).n EQ⟩
def nk(a:C _)(b:Ab)(d f e g:K){c:D}{h:Au}(i:b.Av[c]? =A h):Kr a b d f e g (c+1)={Kr a b d f e g c with AG:=(Kr a b d f e g c).AG++[BG (C7 a h).n AO],A4:=(Kr a b d f e g c).A4++[BG (C7 a h).n EQ]}:=by unfold Kr;rw[<-FL i,Aes,Aes];rfl
def nj(c:C _)(a:Ab)(b e d f:K):Kr c a b e d f a.Av.l=Dl c a b e d f:=by unfold Kr Dl;grind
structure RT(b:C Ab)(a:Ab):Prop where
 hl:b.l<1000000
 hp:1<=a.An/\a.An<=1000
 hn:a.Av.l<=1000
 ho:∀c∈a.Av,0<=C7 b c/\C7 b c<=1000
def Aay{d:C Ab}{c:Ab}(s:RT d c)(h k j l:K){f:G}{r:T}{xt:C F}(xd:f.M r=A (.I 6 (Z Ab.c d::xt)))(xi:Lv f r){N:D}{g:Au}(q:c.Av[b]? =A g){n:G}{p:T}{S:T->Bm}{R xk E xb:F}{P J:D->F}(u:C6 S n N p (Kr d c h k j l b) R xk E xb P J)(z:∀a,Lv f a->S a=.C5)(V:AH f n):
  ∃t U xl xc xj xa,jj W9 96 2 [.n c.Av.l,Z Au.c c.Av,.p r 0,.n b,.p p 0] n=jj W9 96 2 [.n c.Av.l,Z Au.c c.Av,.p r 0,.n (b+1:D),.p p 0] t/\
   C6 U t N p (Kr d c h k j l (b+1)) R xl E xc xj xa/\(∀a,Lv f a->U a=.C5)/\AH f t:=by
 have xF:=s.hn
 let⟨xG,xH⟩:=s.ho g (AdU q)
 have xx:=Cm (AdN.1 q).1
 obtain⟨o,xg⟩:∃o:D,C7 d g=o:=⟨(C7 d g).n,by omega⟩
 have xh:(C7 d g).n=o:=by omega
 have I:=pt d g (by have:=s.hl;omega)
 rw[xg]at I
 let⟨a,xC,e,xf,y,Y,_⟩:=box n (.I 4 (Au.c g))
 let⟨xS,xP⟩:=EL n [(.i .u8 0),(.s []),(.n 0),.sn] e xf B B
 have xK:A9 4 n [.pi (Au.c g)]=A (.S (Au.c g)):=B
 have x:=V.AI y
 have v:=u.ext y
 have xL:(Kr d c h k j l b).AG.l=b:=by show(List.map _ (c.Av.t b)).l=b;grind
 have xM:(Kr d c h k j l b).A4.l=b:=by show(List.map _ (c.Av.t b)).l=b;grind
 let⟨xv,xp,xr,xD,xe,xO,xy,xI,xQ,w,xA,xn⟩:=v.lk (g:=o) (by omega) (by omega)
 let⟨xw,xq,xs,xE,M,xm,xz,xJ,xR,xu,xB,xo⟩:=w.lj (g:=o) (by omega) (by grind)
 have xN:∀a,Lv f a->a≠p:=λa e X=>by have:=z a e;rw[X,u.B3]at this;cases this
 have W:AH f xe:=λa e=>by grind
 refine⟨M,xm,xr,xs,BW P (Kr d c h k j l b).AG.l xp,BW J (Kr d c h k j l b).A4.l xq,?_,?_,λa e=>(xo a (W.lv e)).t ((λa e=>(xn a (x.lv e)).t (z a e)) a e),(λa e=>by grind:AH f M)⟩
 .rw[S9.2.2.1];simp only[Q,QT,S9.2.2.2.1,H (Fa q),H (Ay ((x.M xi).t xd) 0),H (BB Y),I.H B,H (Ay v.M 5),H (Ay w.M 8),S9.2.2.2.2,H (Bh (a:=b) (by omega)),ZR, *]
 .rw[nk d c h k j l q,xh];grind
open Classical in
theorem go {m:C Ab} {d:D} {a:Ab} (xJ:m[d]? =A a) (X:RT m a) (f e g:K) {j:G} {y:T} {x4:C F} (xj:j.M y=A (.I 6 (Z Ab.c m::x4))) (xU:Lv j y) (q:D):∃l w W xX t xE o r n,W9 (pos 96) [.p y 0,.n d,.n f,.n e,.n g] j=A (.p l 0,w)/\C6 W w q l (Dl m a d f e g) xX t xE o r n/\(∀c,Lv j c->W c=.C5)/\AH j w:=by
 have x7:=X.hn;let⟨x9,ya⟩:=X.hp
 obtain⟨b,x8⟩:∃b:D,a.An=b:=⟨a.An.n,by omega⟩;have xN:a.An.n=b:=by omega
 have xT:A9 5 j [.pi (Ab.c a)]=A (.S (Ab.c a)):=B;let⟨xY,p,xQ,xK,xu,xa,V,ye⟩:=box j (.I 5 (Ab.c a))
 let⟨x5,x1⟩:=EL j [(.s []),(.n 0),.sn,.sn,.sn] xQ xK B B
 have xB:p.Ap xY 1=A (.n b):=by rw[Ay xa];show A (F.n a.An)=_;grind
 have xh:=Ti p.next b (by omega);have xd:=Tu p b;have x2:∀c,¬As (.Z p.next 0 b (b+1) 2) c->c=p.next:=λc k=>AdS λJ=>k (EN P);let⟨h,x,xn,xl,v,_,yc,yf⟩:=box p (.I (b*2) ((BG b AO).f N.c))
 rw[xn]at xh xd x2;rw[xl]at xd;have xi:=bn x.next a.Av.l (by omega);have xe:=bN x a.Av.l;have x3:∀c,¬As (.Z x.next 0 a.Av.l (a.Av.l+1) 1) c->c=x.next:=λc k=>AdS λJ=>k (EN λU=>J U.s);obtain⟨i,R,xo,xm,z,_,yd,yh⟩:=box x (.I (a.Av.l*1) ((BG a.Av.l 0).f Be));rw[xo]at xi xe x3;rw[xm]at xe;have xC:Cb [(.n 0),(.n 0),(.n 0),(.n 0),.sn,.sn,.sn] [(0,1),(1,1),(2,1),(3,1),(4,1),(6,1)] [.n d,.n f,.n e,.n g,.Z h 0 b (b+1) 2,.Z i 0 a.Av.l (a.Av.l+1) 1]=A (.S [.n d,.n f,.n e,.n g,.Z h 0 b (b+1) 2,.sn,.Z i 0 a.Av.l (a.Av.l+1) 1]):=B;have xD:Cb [(.n 0),(.n 0),(.n 0),(.n 0),.sn,.sn,.sn,(.n 0),.sn] [(0,7),(7,1)] [.S [.n d,.n f,.n e,.n g,.Z h 0 b (b+1) 2,.sn,.Z i 0 a.Av.l (a.Av.l+1) 1],.n (-1)]=A (.S [.n d,.n f,.n e,.n g,.Z h 0 b (b+1) 2,.sn,.Z i 0 a.Av.l (a.Av.l+1) 1,.n (-1),.sn]):=B;obtain⟨l,S,xP,xL,E,xF,xS,yi⟩:=box R (.I 9 [.n d,.n f,.n e,.n g,.Z h 0 b (b+1) 2,.sn,.Z i 0 a.Av.l (a.Av.l+1) 1,.n (-1),.sn]);have x6:∀xg,bl (.p R.next 0) (R.V (.I (Bq (F.I (.S [.n d,.n f,.n e,.n g,.Z h 0 b (b+1) 2,.sn,.Z i 0 a.Av.l (a.Av.l+1) 1,.n (-1),.sn]))) (F.I (.S [.n d,.n f,.n e,.n g,.Z h 0 b (b+1) 2,.sn,.Z i 0 a.Av.l (a.Av.l+1) 1,.n (-1),.sn])))) xg=xg (.p l 0) S:=Dy R (.I 9 [.n d,.n f,.n e,.n g,.Z h 0 b (b+1) 2,.sn,.Z i 0 a.Av.l (a.Av.l+1) 1,.n (-1),.sn]) xP xL;have xI:∃u,C6 u S q l (Kr m a d f e g 0) (.Z h 0 b (b+1) 2) .sn (.Z i 0 a.Av.l (a.Av.l+1) 1) .sn (λ_=>.sn) (λ_=>.sn)/\∀c,Lv j c->u c=.C5:=by
  have yg:h≠i:=by grind
  refine⟨λc=>if c=l then .BC q else if c=h then .An q else if c=i then .AS q else .C5,?_,λc yb=> ?_⟩
  .exact{
   M:=xF
   lv:=xS
   B3:=Af B
   An:=by show Aw S _ _ 2 (BG a.An.n AO);rw[xN];exact xd.ext (z.AI E)
   Fr:=λc k=>by grind
   AG:=Aw.sn _
   Jl:=λc k=>BF (Cg c) k
   AD:=λxR m xc=>by cases xc
   AS:=xe.ext E
   Fq:=λc k=>by grind
   A4:=Aw.sn _
   Jk:=λc k=>BF (Cg c) k
   B1:=λxR m xc=>by cases xc}
  .grind
 obtain⟨xZ,xr,xz⟩:=xI;obtain⟨_,xk,Y,x0,t,o,r,n,xf,xA,xv⟩:=Dh
  (g:=λU _ xb=>∃u t o r n,C6 u xb q l (Kr m a d f e g U) (.Z h 0 b (b+1) 2) t (.Z i 0 a.Av.l (a.Av.l+1) 1) o r n/\(∀c,Lv j c->u c=.C5)/\AH j xb)
  (λU _ xb xM xw=>by obtain⟨u,t,o,r,n,xp,xx,xs⟩:=xw;obtain⟨k,xO⟩:=Bb xM;obtain⟨w,W,xW,xH,xV,xG,J,xq,xy,xt⟩:=Aay X d f e g xj xU xO xp xx xs;exact⟨(),w,J,W,xW,xH,xV,xG,xq,xy,xt⟩)
  (b:=()) ⟨xZ,_,_,_,_,xr,xz,(xu.AI (v.AI (z.AI E)))⟩
 have Y:jj W9 96 2 [.n a.Av.l,Z Au.c a.Av,.p y 0,.n 0,.p l 0] S=jj W9 96 2 [.n a.Av.l,Z Au.c a.Av,.p y 0,.n a.Av.l,.p l 0] xk:=Y;rw[nj]at xf;refine⟨l,xk,x0,_,t,_,o,r,n,AZ B B ?_,xf,xA,xv⟩;rw[S9.1];simp only[x5,Q,H (Ay xj 0),H (CB xJ),H xT,H x1,H xB,H xh,xn,xl,H (Ay ((v.M V).t xa) 2),H xi,xo,xm,H xC,H xD,x6,H (Ay ((E.M (z.lv (v.lv V))).t ((z.M (v.lv V)).t ((v.M V).t xa))) 2)];rw[Y,S9.2.2.1];simp only[Q,QT,AdM,(CA a.Av.l),S9.2.1]
variable{e:D}
def EB.only{j:T->Bm}{m n:G}{s:C Ab}{l:C Bx}{r:D}{h:T}{b:Ai}{g:Lm}(a:EB j m s l r h b g){k:Bm}(y:b.Ac.l<=e)(d:k.of e)(c:EM j m n k):EB j n s l r h b g where
 M:=(c h a.lv (by rw[a.B3];intro b;subst b;exact d)).1.t a.M
 lv:=(c h a.lv (by rw[a.B3];intro b;subst b;exact d)).2
 B3:=a.B3
 Bn:=(c g.r a.GM (by rw[a.F0];intro b;subst b;exact d)).1.t a.Bn
 GM:=(c g.r a.GM (by rw[a.F0];intro b;subst b;exact d)).2
 F0:=a.F0
 Ac:=a.Ac.Ar λf i e=>c f i (by rw[a.Ir f e];intro b;subst b;exact d)
 Ir:=a.Ir
 Am:=a.Am.Ar λf i u=>c f i (by rw[a.Is f u];intro b;subst b;exact d)
 Is:=a.Is
 BC:=λq t o=>(a.BC q t o).Ar λw v p=>by
  have x:=(AdN.1 o).1;have:=c w v (by
   intro b;rw[b]at p;have:e=q:=by cases k<;>simp[Bm.of]at d p<;>grind
   omega)
  grind
open Classical in
def B_.Es{g:CI}{q z:G}{b:Ai}{xr:D->T}{S:T->Prop}(xv:B_ g q b xr S)(Q:AH q z){J:T->Bm}{i:T}{s:AK}{I xq xj xl:F}{xp xk:D->F}(xt:C6 J z b.Ac.l i s I xq xj xl xp xk)(xw:∀a,Lv q a->J a=.C5)(xS:b.Ac.l<=400)(xF:0<s.An.l)(P:N):
  ∃x h xi j l r,z.Ap i 4=A I/\AR 2 [I,.n 0]=A (.p x 0)/\AX 2 z [.p x 0,.S (N.c P)]=A (AC,h)/\h.Ap g.x 2=A xi/\(∀(xe:F×G->R),((Dq 1 1 h.next [.p i 0]).b λi=>(DN 1 8 (G.V h i.1) [xi,i.2]).b xe)=xe (j,l))/\AX 1 l [.p g.x 2,j]=A (AC,r)/\
   B_ g r ⟨b.Ac++[{s with An:=s.An.set 0 P}],b.Am,b.round,b.AA⟩ (λf=>if f=b.Ac.l then i else xr f) S/\Bo S q r:=by
 obtain⟨xs,c,xy,rfl,xa⟩:=xv
 let⟨xV,xH⟩:=Bb xF
 obtain⟨n,xg,xx⟩:∃n,(∀a,Lv q a->n a=xs a)/\∀a,¬Lv q a->n a=J a:=⟨λa=>if Lv q a then xs a else J a,λa d=>Af d,λa d=>Ad d⟩
 have xd:=xt.Ar λa d k=>⟨B,d,xx a λxG=>by rw[xw a xG]at k;exact k⟩
 let⟨x,h,xT,_,_,xU,xu,xf⟩:=xd.Yi xH P
 have e:=(xy.TG λa d=>⟨Q.M d,Q.lv d,xg a d⟩).only (CK _) (k:=.An b.Ac.l) B xf
 have xQ:=xf.Fp (by simp) (λa d=>⟨Q.lv (xa a d).1,(xg a (xa a d).1).t (xa a d).2⟩)
 have xP:Aw h c.cv (TB λf=>if f=b.Ac.l then i else c.pc f) 1 (List.range b.Ac.l):=by
  rcases e.Ac with xb|⟨xB,xC,xJ,xK,xL,xM⟩;.exact .i xb
  .refine .j ⟨xB,xC,xJ,xK,?_,xM⟩;rw[xL];congr 2;refine W4 _ λm xn=> ?_;have:=AeU.1 xn;show[F.p (c.pc m) 0]=[F.p (if m=b.Ac.l then i else c.pc m) 0];rw[Ad (by omega)]
 obtain⟨j,l,xb,H,xD,xA⟩:=FJ (w:=1) (o:=.p i 0) (h:=8) (λ_=>B) B (by show[F.p i 0]=[F.p (if b.Ac.l=b.Ac.l then i else c.pc b.Ac.l) 0];rw[Af B]) xP (DG (by grind))
 rw[<-AeX]at H
 have xh:∀a,Lv h a->n a≠.Ac->As c.cv a:=λa d p=>AdS λxz=>p (e.Ir a xz)
 have U:=λa d p=>xD a d (xh a d p)
 have Y:=Gx (d:=2) ((U g.x e.lv (by rw[e.B3];decide)).1.t e.M) (by omega) (by omega) (Cr H).1 (Cr H).2
 have xE:Dg 2 [j] [Z Ab.c g.l,.m c.r,c.cv,c.mv,.n b.round,.n b.AA]=[Z Ab.c g.l,.m c.r,j,c.mv,.n b.round,.n b.AA]:=B
 rw[xE]at Y
 have xc:∀a,a≠g.x->(l.set g.x (.I 6 [Z Ab.c g.l,.m c.r,j,c.mv,.n b.round,.n b.AA])).M a=l.M a:=λa d=>by rw[AN,Ad d]
 have xm:(l.set g.x (.I 6 [Z Ab.c g.l,.m c.r,j,c.mv,.n b.round,.n b.AA])).M g.x=A (.I 6 [Z Ab.c g.l,.m c.r,j,c.mv,.n b.round,.n b.AA]):=by simp
 have xo:∀a,Lv (l.set g.x (.I 6 [Z Ab.c g.l,.m c.r,j,c.mv,.n b.round,.n b.AA])) a=Lv l a:=by grind
 generalize l.set g.x (.I 6 [Z Ab.c g.l,.m c.r,j,c.mv,.n b.round,.n b.AA])=r at Y xc xm xo
 have u:∀a,Lv h a->n a≠.Ac->n a≠.Ex->r.M a=h.M a/\Lv r a:=λa d p xN=>⟨(xc a (λb=>xN (by rw[b];exact e.B3))).t (U a d p).1,by grind⟩
 have W:∀a,Lv h a->(if Lv h a then n a else Bm.Ac)=n a:=by grind
 refine⟨x,h,c.cv,j,l,r,(Ay xd.M 4),by omega,by omega,(Ay e.M 2),xb,Y,⟨λa=>if Lv h a then n a else .Ac,{c with cv:=j,pc:=λf=>if f=b.Ac.l then i else c.pc f,pv:=λf=>if f=b.Ac.l then I else c.pv f,ov:=λf=>if f=b.Ac.l then xq else c.ov f,fv:=λf=>if f=b.Ac.l then xj else c.fv f,gv:=λf=>if f=b.Ac.l then xl else c.gv f,og:=λf=>if f=b.Ac.l then xp else c.og f,gg:=λf=>if f=b.Ac.l then xk else c.gg f},?_,B,λa d=> ?_⟩,λa d=> ?_⟩
 .exact{
  M:=xm
  lv:=by rw[xo];exact(U g.x e.lv (by rw[e.B3];decide)).2
  B3:=(W _ e.lv).t e.B3
  Bn:=(u c.r e.GM (by rw[e.F0];decide) (by rw[e.F0];decide)).1.t e.Bn
  GM:=(u c.r e.GM (by rw[e.F0];decide) (by rw[e.F0];decide)).2
  F0:=(W _ e.GM).t e.F0
  Ac:=by rw[AdY];exact H.Ar λa d p=>⟨xc a (λxI=>p (by rw[xI];exact xA g.x e.lv (xh g.x e.lv (by rw[e.B3];decide)))),by grind⟩
  Ir:=λa p=>by grind
  Am:=e.Am.Ar λa d v=>u a d (by rw[e.Is a v];decide) (by rw[e.Is a v];decide)
  Is:=λa v=>(W a (e.Am.lv v)).t (e.Is a v)
  BC:=λm X E=>by
   by_cases xn:m<b.Ac.l
   .have E:b.Ac[m]? =A X:=by grind
    have xO:¬m=b.Ac.l:=by omega
    simp only[Ad xO];exact((e.BC m X E).Ar λa d k=>by have:=u a d (by intro b;rw[b]at k;exact k) (by intro b;rw[b]at k;exact k);grind)
   .have xR:m<b.Ac.l+1:=by grind
    have:m=b.Ac.l:=by omega
    subst this;have E:A {s with An:=s.An.set 0 P}=A X:=by grind
    cases E
    simp only[];exact xu.Ar λa d k=>by have:=u a d (by intro b;rw[b]at k;exact k) (by intro b;rw[b]at k;exact k);grind}
 .grind
 grind
def fN{b:CI}{h:G}{a:Ai}{y:D->T}{m:T->Prop}(k:B_ b h a y m){d:D}{i:Ab}(u:b.l[d]? =A i)(q:RT b.l i)(Y:a.Ac.l<=400)(f e g:K)(c:N):∃n z,W9 (pos 150) [.p b.x 0,.n d,.n f,.n e,.n g,.S (N.c c)] h=A (.n (EO b.l a d f e g c).2,n)/\B_ b n (EO b.l a d f e g c).1 z m/\Bo m h n/\∀p,p<a.Ac.l->z p=y p:=by
 have I:=k;obtain⟨xB,xc,S,rfl,xq⟩:=I;let⟨xb,o,Z,X,j,V,xa,xv⟩:=box h (.I 2 (N.c c))
 have xe:∀(s:F->G->R),bl (.p h.next 0) (h.V (.I (Bq (F.I (.S (N.c c)))) (F.I (.S (N.c c))))) s=s (.p xb 0) o:=Dy h (.I 2 (N.c c)) Z X;have l:=S.ext j;have xd:o.Ap b.x 2=A xc.cv:=Ay l.M 2;have x:=Cp l.Ac;rw[Ad0]at x;by_cases U:a.Ac.l=400
 .have v:EO b.l a d f e g c=(a,5):=by unfold EO;grind
  have t:(a.Ac.l:K)=400:=by omega
  refine⟨o,_,AZ B B ?_,by rw[v];exact k.ext j,P,P⟩;rw[v,aL.1];simp only[↓xe,↓Q,↓QT,↓H xd,↓H x,t]
 .have t:¬(a.Ac.l:K)=400:=by omega
  have w:EO b.l a d f e g c=(⟨a.Ac++[{Dl b.l i d f e g with An:=(Dl b.l i d f e g).An.set 0 c}],a.Am,a.round,a.AA⟩,0):=by unfold EO;rw[Ad U,AdR,u];rfl
  let⟨xy,xn,xC,xz,xx,xk,xm,xw,xl,xt,E,M,r⟩:=go u q f e g l.M l.lv a.Ac.l
  have xf:=k.V j;have xr:=q.hp;let⟨xh,xo,xi,xj,xp,W,xA,xs,xE,xG,xu,xF,J,xg⟩:=(k.ext j).Es r E M Y (by show 0<(BG i.An.n AO).l;grind) c
  have xD:=(r.M xa).t V;refine⟨W,_,AZ B B ?_,by rw[w];exact J,P,P⟩;rw[w,aL.1];simp only[QY,aL.2, *]
def Li(a:CI):Prop:=∃c,GU a.es c/\∀(d:BN)(b:D),CH a.l d=(b:K)->DV c d=A (.n (b:K))
def Li.Hw{a:CI}(f:Li a){b:G}{c:T}{m:D}(l:b.M c=A (.Bn a.es m)){e:BN}{d:D}(j:CH a.l e=d):EP Aa [2] (.n 0) Aa b [.m c,.s e]=A (.n d):=by
 let⟨n,k,i⟩:=f
 have g:O_ b (.m c)=A a.es:=by show(match HQ (b.M c)with|some (h,_)=>A h|none=>O)=_;rw[l];rfl
 rw[WN g k,i e d j];rfl
def Kw(b:C N)(c:N)(a:D):C N:=BG a c++b.d a
def n7{a:C N}{c:N}(d:b<=a.l):(Kw a c b).l=a.l:=by unfold Kw;grind
def n8{b:C N}{c:N}{a:D}(d:a<b.l):(Kw b c a).set a c=Kw b c (a+1):=by
 unfold Kw;let⟨f,_,e⟩:=Ds d
 rw[e,Af3 _ _ (by grind),Afr,Afc,Afs,List.replicate_succ',AeN];rfl
def n6(a:C N)(b:N):Kw a b a.l=a.m λ_=>b:=by unfold Kw;rw[List.drop_of_length_le Om,Ad5,List.map_const']
def n9(a:C _)(b:N):Kw a b 0=a:=by simp[Kw]
def Jf{c:Ai}{a:D}{d b:AK}(e:c.Ac[a]? =A d):(c.AJ a b).Ac[a]? =A b:=Aex P
def LX(c:Ai)(a:D)(d b:AK):(c.AJ a d).AJ a b=c.AJ a b:=by unfold Ai.AJ;rw[Ae5]
def NC{a:Ai}{c:AK}(e:a.Ac[b]? =A c):a.AJ b c=a:=by
 unfold Ai.AJ;have:a.Ac.set b c=a.Ac:=by
  refine AeP λd=> ?_;by_cases f:b=d;.grind
  .grind
 rw[this]
def rc{d:CI}{k:G}{r:Ai}{xE:D->T}{x:T->Prop}(V:B_ d k r xE x)(xR:Li d){g:A5}{c:D}(xC:g.FE=b)(xo:g.Ax=c)(u:Au)(a:N){j:AK}(E:r.Ac[b]? =A j){e:C N}(xB:j.AG[c]? =A e)(yl:e.l<1000000)(x7:r.Ac.l<=400)(x1:a.Ak≠5->∃(W:D)(X:Ab),CH d.l u.A8=W/\d.l[W]? =A X/\RT d.l X):∃M xc,W9 (pos 98) [.p d.x 0,.S (A5.c g),.S (Au.c u),.S (N.c a)] k=A (.n (Nb d.l r g u a).2,M)/\B_ d M (Nb d.l r g u a).1 xc x/\Bo x k M/\∀b,b<r.Ac.l->xc b=xE b:=by
 let⟨xp,S,x8,x3,xO,xV,xD,yp⟩:=box k (.I 2 (A5.c g))
 let⟨xF,xn,x9,x4,xf,xW,yf,yq⟩:=box S (.I 4 (Au.c u))
 obtain⟨y,m,ya,x5,xg,xx,yo,yr⟩:=box xn (.I 2 (N.c a));have xI:∀(J:F->G->R),bl (.p k.next 0) (k.V (.I (Bq (F.I (.S (A5.c g)))) (F.I (.S (A5.c g))))) J=J (.p xp 0) S:=Dy k (.I 2 (A5.c g)) x8 x3;have xJ:∀(J:F->G->R),bl (.p S.next 0) (S.V (.I (Bq (F.I (.S (Au.c u)))) (F.I (.S (Au.c u))))) J=J (.p xF 0) xn:=Dy S (.I 4 (Au.c u)) x9 x4;have xK:=Ko xn a ya x5;have U:=xO.AI (xf.AI xg);have xw:=(xg.M (xf.lv xD)).t ((xf.M xD).t xV);have xj:m.Ap xp 0=A (.n g.FE):=Ay xw 0;have xk:m.Ap xp 1=A (.n g.Ax):=Ay xw 1;have xG:m.AL y 0 2=A (N.c a):=BB xx;have Y:=Xb a;by_cases xl:a.Ak=5
 .rw[A0 xl]at Y;have xa:Nb d.l r g u a=(r.AJ b {j with AG:=j.AG.set c (e.m λ_=>a)},0):=by unfold Nb;rw[Ad (by grind),xC,xo];simp only[AdR,DK E,xB,Aeg]
  obtain⟨xd,p,z,rfl,xY⟩:=(V.V U);obtain⟨yj,yc,yh⟩:=z.Lf E;have xe:=z.BC b j E;have xy:c<j.AG.l:=by grind
  obtain⟨xT,xH⟩:=CD (f:=EE (p.og b)) (w:=1) (λ_=>B) xe.AG (F9 xy);have yg:m.Ap xT (c*1)=A (p.og b c):=by exact(xH.Ap (f:=EE (p.og b)) (λ_=>B) (F9 xy) (b:=0) (by grind))
  have ys:∀v,¬Lv k v->Lv m v->ES x k m v:=by grind
  have xP:ES x k m y:=by grind
  obtain⟨_,Z,xm,⟨xu,xh⟩⟩:=Dh (h:=e.l) (f:=λq _ k=>jj W9 98 2 [.n e.l,p.og b c,.p y 0,.n q] k)
   (g:=λq _ k=>EB xd k d.l d.es d.k d.x (r.AJ b {j with AG:=j.AG.set c (Kw e a q)}) p/\((∀v,ES x _ m v->Lv k v/\xd v=.C5)/\Bo (ES x _ m) m k))
   (λq _ M xA xQ=>by
    obtain⟨xv,x6,xt⟩:=xQ;have yk:=Cm xA;have xN:=xv.BC b _ (Jf E);have xz:({j with AG:=j.AG.set c (Kw e a q)}).AG[c]? =A (Kw e a q):=by grind
    obtain⟨yv,yb⟩:=Bb (b:=Kw e a q) (a:=q) (by rw[n7 (by omega)];grind);obtain⟨_,X,xX,_,_,yn,_,yu,xM,xr⟩:=xN.PP xz yb a;have xi:=xv.NI (Jf E) (t:=.AD b c) B xr xM;rw[LX]at xi;have x2:(AK.AD {j with AG:=j.AG.set c (Kw e a q)} c q a)={j with AG:=j.AG.set c (Kw e a (q+1))}:=by unfold AK.AD;rw[TK xz,n8 xA];simp only[Ae5]
    rw[x2]at xi;have xs:=xr.Fp (by grind) x6;have yt:M.AL y 0 2=A (N.c a):=BB ((xt y xP).t xx);refine⟨(),xX,?_,xi,xs.1,xt.AI xs.2⟩;rw[Py.2.2.2.1];simp only[QY,Py.2.2.2.2.1,Py.2.2.2.2.2,H (Bh (a:=q) (by omega)), *])
   (b:=()) (a:=m) (by
    rw[n9];have:j.AG.set c e=j.AG:=by
     refine AeP λyd=> ?_;by_cases xo:c=yd;.grind
     .grind
    rw[this];rw[NC E];grind)
  rw[n6]at xu;have xm:jj W9 98 2 [.n e.l,p.og b c,.p y 0,.n 0] m=jj W9 98 2 [.n e.l,p.og b c,.p y 0,.n e.l] Z:=xm;have xU:=CA e.l;refine⟨Z,p.pc,AZ B B ?_,by rw[xa];exact⟨xd,p,xu,B,P⟩,λv xb=>(xh.2 v P).t (U.M (V.C4 xb)),λ_ _=>B⟩;rw[xa,Py.1];rw[xC]at xj;rw[xo]at xk;simp only[↓xI,↓xJ,↓xK,↓Q,↓QT,↓H xG,↓Y.H B,QB,Py.2.1,↓H (Ay z.M 2:m.Ap d.x 2=A p.cv),↓H xj,↓H yc,↓H yh,↓H (Ay xe.M 5:m.Ap (p.pc b) 5=A (p.ov b)),↓H xk,↓H xH.ia,↓H yg,↓H (Cp (xe.AD c e xB).1)];rw[xm,Py.2.2.2.1];simp only[↓Q,↓QT,AdM,xU,Py.2.2.1]
 .rw[A2 xl]at Y;let⟨W,X,xZ,x0,xL⟩:=x1 xl
  have xa:Nb d.l r g u a=EO d.l r W g.FE g.Ax 0 a:=by unfold Nb;grind
  have xq:=V.ext U;let⟨xd,p,z,ym,xY⟩:=xq
  let⟨Z,xc,ye,yi,xh,xS⟩:=fN xq x0 xL x7 g.FE g.Ax 0 a
  refine⟨Z,xc,AZ B B ?_,by grind,λv xb=>(xh v xb).t (U.M (V.C4 xb)),xS⟩;rw[xa,Py.1];simp only[↓xI,↓xJ,↓xK,↓Q,↓QT,↓H xG,↓Y.H B,QB,↓H (Ay z.M 1:m.Ap d.x 1=A (.m p.r)),↓H (Ay ((xg.M yf).t xW) 1:m.Ap xF 1=A (.s u.A8)),↓H (xR.Hw z.Bn xZ),↓H xj,↓H xk,↓H ye]
def B_.VO{b:CI}{d:G}{c:Ai}{e:D->T}{a:T->Prop}(g:B_ b d c e a){f:T}(o:a f)(i:BV):B_ b (d.set f i) c e a:=by obtain⟨j,k,h,rfl,l⟩:=g;exact⟨j,k,h.Ar λp n m=>⟨by rw[AN,Ad P],by grind⟩,B,P⟩
def B_.iV{d:CI}{f:G}{e:Ai}{h:D->T}{b:T->Prop}(j:B_ d f e h b){i:F}(q:∀a,¬As i a->b a)(c:Iw (λa=>¬As i a) f g):B_ d g e h b:=by obtain⟨m,n,k,rfl,o⟩:=j;exact⟨m,n,k.Ar λa l p=>⟨c.o a P,by rw[c.l];grind⟩,B,λa l=>⟨by rw[c.l];grind,P⟩⟩
def Aw.rd{d:G}{h:F}{g:C _}(j:Aw d h N.c 2 g){i:N}(e:g[b]? =A i):∃a,AR 2 [h,.n b]=A (.p a (b*2))/\d.AL a (b*2) 2=A (N.c i):=by
 let⟨a,c⟩:=CD (f:=N.c) (w:=2) (λ_=>B) j e
 exact⟨a,c.ia,c.AL (f:=N.c) (λ_=>B) e⟩
def J0{a:C _}{c:N}(d:a[b]? =A c):Cu a b=c:=by unfold Cu;grind
def uc{i:CI}{b:Ai}{m:D->T}{f:T->Prop}(o:B_ i g b m f)(n:Ft b.Am)(a:ED)(y:a.op=1\/a.op=3\/a.op=4)(l:∀w∈a.CQ,Ie w b.Am.l=L){d:T}{x:C F}(r:g.M d=A (.I 2 x))(k:f d):∃h c,W9 (pos 99) [.p i.x 0,.S a.c8] g=A (.AB [.S (N.c (Eh b a).2.1),.n (Eh b a).2.2],h)/\AX 2 h [.p d 0,.S (N.c (Eh b a).2.1)]=A (AC,c)/\c.AL d 0 2=A (N.c (Eh b a).2.1)/\B_ i c (Eh b a).1 m f/\∀e,f e->e≠d->c.M e=g.M e:=by
 have H:(BE b.Am a).F1=[]:=by unfold BE;grind
 let⟨h,s,p,q⟩:=gp o n a (by grind) l (by grind) (λE l=>by grind)
 let⟨c,v,u,j⟩:=Gy ((q d k).t r) (Eh b a).2.1
 refine⟨h,c,s,v,u,by rw[j];exact p.VO k _,λe z t=> ?_⟩;rw[j,AN,Ad t];grind
structure c5(e:C AE)(c:A5)(a:Au)(b:C N):Prop where
 A7:1<=b.l
 Rz:a.op=4->(b.l:K)=Du a.A8/\0<Du a.A8/\∀d∈b,PK d
 M3:a.op=6\/a.op=12->2<=b.l
 V1:a.op=10\/a.op=12\/a.op=13->∀d∈b,Ie d e.l=L
 rd:(0<=c.FE/\c.FE<=1000)/\(0<=c.Ax/\c.Ax<=1000)
def re{M:CI}{n:G}{k:Ai}{xn:D->T}{o:T->Prop}{t:F}(xb:B_ M n k xn (λe=>o e\/¬As t e))(ym:∀e,o e->As t e)(xO:Ft k.Am){s:C N}(x6:Aw n t N.c 2 s){j:A5}{d:Au}(v:c5 k.Am j d s):∃z,W9 (pos 101) [.p M.x 0,.S (A5.c j),.S (Au.c d),t] n=A (.AB [.S (N.c (E7 k j d s).2.1),.n (E7 k j d s).2.2],z)/\B_ M z (E7 k j d s).1 xn o/\Bo o n z:=by
 let⟨ya,xe,xZ,xV,xN,xS,xM,yo⟩:=box n (.I 2 (A5.c j))
 let⟨xo,xz,x0,xW,xq,xT,x4,yp⟩:=box xe (.I 4 (Au.c d))
 let⟨y,r,x1,xX,xr,xy,yn,yq⟩:=box xz (.I 2 [.i .u8 0,.n 0])
 have yc:∀(xc:F->G->R),bl (.p n.next 0) (n.V (.I (Bq (F.I (.S (A5.c j)))) (F.I (.S (A5.c j))))) xc=xc (.p ya 0) xe:=Dy n (.I 2 (A5.c j)) xZ xV;have yd:∀(xc:F->G->R),bl (.p xe.next 0) (xe.V (.I (Bq (F.I (.S (Au.c d)))) (F.I (.S (Au.c d))))) xc=xc (.p xo 0) xz:=Dy xe (.I 4 (Au.c d)) x0 xW;have ye:=Jp xz x1 xX;have xa:=xN.AI (xq.AI xr);have yl:=(xr.M (xq.lv xM)).t ((xq.M xM).t xS);have xx:=(xr.M x4).t xT;have xP:r.Ap xo 0=A (.i .u8 d.op):=Ay xx 0;have xQ:r.Ap xo 1=A (.s d.A8):=Ay xx 1;have ys:r.AL xo 0 4=A (Au.c d):=BB xx;have x5:¬Lv n y:=by grind
 have xu:=xb.V xa;have xm:=x6.ext xa;have xt:ES (λe=>o e\/¬As t e) n r y:=by grind
 have xs:∀e,o e->ES (λe=>o e\/¬As t e) n r e:=by grind
 have yf:∀e,o e->e≠y:=λe xA k=>x5 (k▸xb.C4 P);let⟨h,xK⟩:=Bb (b:=s) (a:=0) v.A7
 let⟨x3,xL,yr⟩:=xm.rd xK
 have xL:AR 2 [t,.n 0]=A (.p x3 0):=xL;have J:=J0 xK;have xd:∀xp:N,∃z,AX 2 r [.p y 0,.S (N.c xp)]=A (AC,z)/\z.AL y 0 2=A (N.c xp)/\B_ M z k xn o/\Bo o n z:=λxp=>by
  let⟨g,X,V,xH⟩:=Gy xy xp
  exact⟨g,X,V,by rw[xH];exact(xu.VO xt _).sub xs,λe xA=>by rw[xH,AN,Ad P];exact xa.M (xb.C4 P)⟩
 unfold E7;by_cases xj:d.op=4
 .rw[Af xj];let⟨x7,x8,x9⟩:=v.Rz xj
  let⟨g,xR,xv⟩:=BS.FV (t:=λe=>¬As t e) (BS.cons ((Fs.im (c:=r) (a:=.s d.A8) B).up (by omega)) (BS.cons (Fs.Cs (a:=N.c) (g:=2) (λe d=>d) (λ_=>B) (λ_=>B) xm) (BS.nil 2 r))) (by omega)
  have U:=py d.A8 s x7 x8 x9 r _ g xR;have xU:g.M y=A (.I 2 [.i .u8 0,.n 0]):=(xv.o y P).t xy;let⟨m,Y,W,xI⟩:=Gy xU (Kc d.A8 s)
  refine⟨m,AZ B B ?_,by rw[xI];exact((xu.iV P xv).VO xt _).sub xs,λe xA=>by rw[xI,AN,Ad P,xv.o e P];exact xa.M (xb.C4 P)⟩
  rw[MJ.1];simp only[↓yc,↓yd,↓ye,↓Q,↓QT,↓H xP,xj,↓H xQ,↓H U,↓H Y,↓H W]
 rw[Ad xj];by_cases xF:d.op=6
 .rw[Af xF];let⟨Z,xf⟩:=Bb (b:=s) (a:=1) (v.M3 Om)
  let⟨xB,xh,yb⟩:=xm.rd xf
  have xh:AR 2 [t,.n 1]=A (.p xB 2):=xh;have xl:=MD h;rw[J,(J0 xf)];by_cases xk:h.Ak=0
  .let⟨g,X,V,u,x⟩:=xd Z
   rw[A0 xk]at xl;rw[Af xk];refine⟨g,AZ B B ?_,u,x⟩;rw[MJ.1];simp only[QY,Int.reduceEq,xl.H B,QB, *]
  .let⟨g,X,V,u,x⟩:=xd h
   rw[A2 xk]at xl;rw[Ad xk];refine⟨g,AZ B B ?_,u,x⟩;rw[MJ.1];simp only[QY,Int.reduceEq,xl.H B,QB,MJ.2.2, *]
 rw[Ad xF];by_cases xG:d.op=7
 .rw[Af xG,J];let⟨g,X,V,u,x⟩:=xd h
  refine⟨g,AZ B B ?_,u,x⟩;rw[MJ.1];simp only[QY,Int.reduceEq, *]
 rw[Ad xG];have xw:∀p:ED,(p.op=1\/p.op=3\/p.op=4)->(∀q∈p.CQ,Ie q k.Am.l=L)->∃g m,W9 (pos 99) [.p M.x 0,.S p.c8] r=A (.AB [.S (N.c (Eh k p).2.1),.n (Eh k p).2.2],g)/\AX 2 g [.p y 0,.S (N.c (Eh k p).2.1)]=A (AC,m)/\m.AL y 0 2=A (N.c (Eh k p).2.1)/\B_ M m (Eh k p).1 xn o/\Bo o n m:=λp xY x2=>by
  let⟨g,m,U,Y,W,E,I⟩:=uc xu xO p xY x2 xy xt
  exact⟨g,m,U,Y,W,E.sub xs,λe xA=>(I e P P).t (xa.M (xb.C4 P))⟩
 by_cases xC:d.op=10
 .rw[Af xC,J];have xJ:Cb [(.i .u8 0),(.i .u8 0),(.n 0),(.i .u8 0),(.n 0),(.i .u8 0),(.n 0),(.n 0)] [(0,1),(1,2)] [(.i .u8 1),.S (N.c h)]=A (.S (ED.c8 ⟨1,h,AO,AO,0⟩)):=B;let⟨g,m,U,Y,W,E,I⟩:=xw ⟨1,h,AO,AO,0⟩ P (λq xg=>by
   have:q=h:=by simpa[ED.CQ]using xg
   subst this;exact v.V1 Om q P)
  refine⟨m,AZ B B ?_,E,I⟩;rw[MJ.1];simp only[QY,Int.reduceEq, *]
 rw[Ad xC];by_cases xi:d.op=12
 .rw[Af xi];let⟨Z,xf⟩:=Bb (b:=s) (a:=1) (v.M3 Om)
  let⟨xB,xh,yb⟩:=xm.rd xf
  have xh:AR 2 [t,.n 1]=A (.p xB 2):=xh;rw[J,(J0 xf)];let⟨yg,yh,yi⟩:=v.rd
  have yk:=Vg 1000 j.FE (by unfold Dk;omega) (by unfold Dk;omega);have yj:=F2 (a:=1000*j.FE) (b:=j.Ax) (by omega) (by omega);have xJ:Cb [(.i .u8 0),(.i .u8 0),(.n 0),(.i .u8 0),(.n 0),(.i .u8 0),(.n 0),(.n 0)] [(0,1),(1,2),(3,2),(7,1)] [(.i .u8 3),.S (N.c h),.S (N.c Z),.n (1000*j.FE+j.Ax)]=A (.S (ED.c8 ⟨3,h,Z,AO,1000*j.FE+j.Ax⟩)):=B;let⟨g,m,U,Y,W,E,I⟩:=xw ⟨3,h,Z,AO,1000*j.FE+j.Ax⟩ P (λq xg=>by
   have:q=h\/q=Z:=by simpa[ED.CQ]using xg
   rcases this with rfl|rfl;.exact v.V1 (.j (.i xi)) q P
   .exact v.V1 (.j (.i xi)) q P)
  refine⟨m,AZ B B ?_,E,I⟩;rw[MJ.1];simp only[QY,Int.reduceEq, *]
 rw[Ad xi];by_cases xD:d.op=13
 .rw[Af xD,J];have xJ:Cb [(.i .u8 0),(.i .u8 0),(.n 0),(.i .u8 0),(.n 0),(.i .u8 0),(.n 0),(.n 0)] [(0,1),(1,2)] [(.i .u8 4),.S (N.c h)]=A (.S (ED.c8 ⟨4,h,AO,AO,0⟩)):=B;let⟨g,m,U,Y,W,E,I⟩:=xw ⟨4,h,AO,AO,0⟩ P (λq xg=>by
   have:q=h:=by simpa[ED.CQ]using xg
   subst this;exact v.V1 Om q P)
  refine⟨m,AZ B B ?_,E,I⟩;rw[MJ.1];simp only[QY,Int.reduceEq, *]
 rw[Ad xD];by_cases xE:d.op=14
 .rw[Af xE,J];let⟨g,X,V,u,x⟩:=xd (Na h)
  refine⟨g,AZ B B ?_,u,x⟩;rw[MJ.1];simp only[QY,Int.reduceEq,(pz h).H B, *]
 .rw[Ad xE,J];let⟨g,X,V,u,x⟩:=xd (M_ d h)
  refine⟨g,AZ B B ?_,u,x⟩;rw[MJ.1];simp only[QY,MJ.2.1,(pA d h).H B, *]
def kv{b c:AK}(e:∀a,H0 b a=H0 c a):∀d:C AF,Kh b d=Kh c d
 |[]=>rfl
 |a::f=>by unfold Kh;rw[e a,kv e f]
def kw{b:AK}:∀{f:C AF}{d:C N},Kh b f=A d->d=f.m (Bs b)
 |[],d,a=>by cases a;rfl
 |g::h,d,a=>by
  unfold Kh at a
  cases c:H0 b g with
  |none=>rw[c]at a;cases a
  |some j=>
   cases e:Kh b h with
   |none=>rw[c,e]at a;cases a
   |some i=>
    rw[c,e]at a;cases a
    rw[kw e,AeC];unfold Bs;rw[c];rfl
structure RV(j:CI)(b:Ai)(m:A5)(k f:D)(i:AK)(h:Ab)(a:Au)(d:C N):Prop where
 hi:m.FE=(k:K)
 hj:m.Ax=(f:K)
 hc:b.Ac[k]? =A i
 ha:∃g:D,i.Bc=(g:K)/\j.l[g]? =A h
 hn:h.Av[f]? =A a
 hf:f<i.AS.l
 hv:Kh i a.A3=A d
 hl:a.A3.l<1000000
 Ld:1<=d.l
 Fj:Ft b.Am
 AA:0<=b.AA/\b.AA<=6000
 aG:¬(a.op=8\/a.op=9)->a.op≠11->a.op≠5->c5 b.Am m a d/\FB b k f 0
 sw:a.op=5->∃c e,d[0]? =A c/\d[1]? =A e/\(-9223372036854775806<=c.n/\c.n<=9223372036854775807)/\0<=(FZ c e).1/\FB b k f (FZ c e).1.n
 st:a.op=11->∃c e l,d[0]? =A c/\d[1]? =A e/\d[2]? =A l/\(∀p∈[c,e,l],Ie p b.Am.l=L)/\(BE b.Am ⟨2,c,e,l,0⟩).F1.l<1000000/\∀o∈(BE b.Am ⟨2,c,e,l,0⟩).F1,IY b o
 call:a.op=8\/a.op=9->(∃n,i.AG[f]? =A n/\n.l<1000000)/\b.Ac.l<=400/\((Cu d 0).Ak≠5->∃(g:D)(h:Ab),CH j.l a.A8=(g:K)/\j.l[g]? =A h/\RT j.l h)
structure kL(g:CI)(h:Ai)(l:D->T)(c:T->Prop)(m:A5)(k:Au)(j:C N)(i b:G)(d e:T)(f:F):Prop where
 H:B_ g b h l (λa=>(c a\/a=d\/a=e)\/¬As f a)
 ap:∀a,c a\/a=d\/a=e->As f a
 o:Aw b f N.c 2 j
 gq:b.M d=A (.I 2 (A5.c m))
 gn:b.M e=A (.I 4 (Au.c k))
 T:Bo c i b
def Aam{i:CI}{o:G}{e:Ai}{V:D->T}{u:T->Prop}(Y:B_ i o e V u){j:A5}{k w:D}{l:AK}{xs:Ab}{f:Au}{xg:C N}(d:RV i e j k w l xs f xg)(q:K)(xT:e.AA≠6000):∃v h r I,xx W9 53 [.p i.x 0,.S (A5.c j),.n q] o=jj W9 53 3 [.b (Ao (f.op=8\/f.op=9)),.i .u8 f.op,.p i.x 0,.p r 0,I,.p (V k) 0,.p h 0] v/\kL i (DO e j q) V u j f xg o v h r I:=by
 let⟨h,U,xS,xQ,xl,xt,xX,xY⟩:=box o (.I 2 (A5.c j))
 have xm:=Y.V xl;have xR:∀m,u m->Lv o m:=λm g=>Y.C4 g;obtain⟨xD,s,xd,rfl,xv⟩:=xm;have X:ES u o U h:=by grind
 let⟨xr,xw,xy⟩:=d.ha
 have x8:U.Ap i.x 5=A (.n e.AA):=Ay xd.M 5;let⟨xO,xP⟩:=d.AA
 have xL:=F2 (a:=e.AA) (b:=1) (by omega) (by omega);let⟨E,x3,z,xp⟩:=xd.MZ (e.AA+1)
 have xb:=xp.Fp (by grind) xv;have x7:E.Ap i.x 2=A s.cv:=Ay z.M 2;have S:=(xb.2 h X).t xt;have xE:E.Ap h 0=A (.n k):=by rw[Ay S];show A (F.n j.FE)=_;rw[d.hi]
 let⟨xK,xU,x2⟩:=z.Lf d.hc
 have W:=z.BC k l d.hc;have x1:E.Ap (s.pc k) 6=A (s.fv k):=Ay W.M 6;have xF:E.Ap h 1=A (.n w):=by rw[Ay S];show A (F.n j.Ax)=_;rw[d.hj]
 let⟨xN,xz⟩:=Bb d.hf
 let⟨xJ,p,xV,x4,J,xa⟩:=W.cp xz q
 have xq:=z.NI d.hc (t:=.AS k) B xa J;have xc:=xa.Fp (by grind) xb.1;have xf:=(xc.2 h X).t S;have x6:p.Ap i.x 0=A (Z Ab.c i.l):=Ay xq.M 0;have x0:p.Ap (s.pc k) 0=A (.n xr):=by rw[Ay J.M];show A (F.n l.Bc)=_;rw[xw]
 have xG:p.Ap h 1=A (.n w):=by rw[Ay xf];show A (F.n j.Ax)=_;rw[d.hj]
 let⟨r,xu,xB,xA,x,R,xh,xZ⟩:=box p (.I 4 (Au.c f))
 let⟨x9,x5⟩:=EL p (b:=4) [(.i .u8 0),(.s []),(.n 0),.sn] (c:=Au.c f) xB xA B B
 have xI:xu.Ap r 3=A (Z AF.c f.A3):=Ay R 3;have xk:=J.ext x;let⟨I,v,xW,xj,y,xe⟩:=gk xk f.A3 ((kv (b:={l with AS:=l.AS.set w q}) (c:=l) (λ_=>B) f.A3).t d.hv) d.hl
 have xH:v.Ap r 0=A (.i .u8 f.op):=Ay ((y.M xh).t R) 0;have xM:DO e j q=(Ai.AJ ⟨e.Ac,e.Am,e.round,e.AA+1⟩ k {l with AS:=l.AS.set w q}):=by unfold DO Ai.AJ;rw[d.hi,d.hj];simp only[AdR,DK d.hc]
 have xi:Lv p h:=by grind
 have xn:B_ i p (DO e j q) s.pc (ES u o U):=⟨xD,s,by grind,B,xc.1⟩;have xo:=(xn.V x).V y;refine⟨v,h,r,I,?_,xo.sub ?_,?_,xj,(y.M (x.lv xi)).t ((x.M xi).t xf),(y.M xh).t R,λm g=> ?_⟩
 .rw[Ml.1];simp only[QZ,Ml.2.1,H (CB xy),H (Fa d.hn), *];by_cases M:f.op=8;.rw[A0 (.i M)];simp only[↓Q,↓QT,M]
  .by_cases P:f.op=9;.rw[A0 (.j P)];simp only[↓Q,↓QT,AdM,Int.reduceEq,P]
   .rw[A2 (by grind)];simp only[↓Q,↓QT,AdM,M,P]
 .intro m g;rcases g with(g|rfl|rfl)|g;.grind
  .grind
  .grind
  .exact .j ⟨λxC=>g (xe m xC),xj.Cz g⟩
 .intro m g;refine xe m ?_;rcases g with g|rfl|rfl;.grind
  .grind
  .grind
 .grind
def FB.of{a b:Ai}{c d:D}(f:FB a c d e)(g:b.Ac=a.Ac):FB b c d e:=by unfold FB at f⊢;grind
def FB.ON{b:Ai}{a f:D}(k:FB b a e f)(g:A5)(n:K):FB (DO b g n) a e f:=by
 let⟨i,m,h,c,l,d⟩:=k
 by_cases j:g.FE.n=a;.subst j;exact⟨_,_,h,Aex (AdN.1 c).1,by rw[DK c];grind,d⟩
 .exact⟨i,m,h,by show(b.Ac.set _ _)[a]? =_;grind,l,d⟩
def IY.ON{a:Ai}{d:Bz}(i:IY a d)(c:A5)(b:K):IY (DO a c b) d:=by
 let⟨j,k,e,f,g,h⟩:=i
 exact⟨j,k,e,f,g,h.ON c b⟩
def h6{b:Ai}{a:ED}(c:a.op=1\/a.op=3\/a.op=4):(Eh b a).1.Ac=b.Ac:=by
 unfold Eh;split;.rfl
 .have d:(BE b.Am a).F1=[]:=by
   unfold BE
   grind
  grind
def rT(a:Ai)(d:A5)(c:Au)(b:C N):(E7 a d c b).1.Ac=a.Ac:=by
 unfold E7
 repeat' split
 all_goals first|rfl|exact h6 (.i B)|exact h6 (.j (.i B))|exact h6 (.inr (.inr rfl))
variable{d:Ai}
def ZW{i:CI}{b:A5}{j h:D}{g:AK}{k:Ab}{e:Au}{a:C N}(f:RV i d b j h g k e a)(c:K)(o:d.AA≠6000):
  F6 i.l d b c=if e.op=8\/e.op=9 then Nb i.l (DO d b c) b e (Cu a 0)
   else if e.op=11 then((Eh (DO d b c) ⟨2,Cu a 0,Cu a 1,Cu a 2,0⟩).1,(Eh (DO d b c) ⟨2,Cu a 0,Cu a 1,Cu a 2,0⟩).2.2)
   else if e.op=5 then((DO d b c).AD j h (FZ (Cu a 0) (Cu a 1)).1.n (FZ (Cu a 0) (Cu a 1)).2,0)
   else if(E7 (DO d b c) b e a).2.2≠0 then((E7 (DO d b c) b e a).1,(E7 (DO d b c) b e a).2.2)else((E7 (DO d b c) b e a).1.AD j h 0 (E7 (DO d b c) b e a).2.1,0):=by
 let⟨p,q,r⟩:=f.ha
 have l:(DO d b c).at j={g with AS:=g.AS.set h c}:=by refine DK ?_;unfold DO;rw[f.hi,f.hj];simp only[AdR,DK f.hc];exact Aex (AdN.1 f.hc).1
 have m:F4 i.l {g with AS:=g.AS.set h c}=k:=by unfold F4;grind
 have n:e.A3.m (Bs {g with AS:=g.AS.set h c})=a:=(kw f.hv).s
 unfold F6
 rw[Ad o]
 simp only[f.hi,f.hj,AdR,l,m,f.hn,Aeg,n]
def gd{j:CI}{W:G}{t:D->T}{q:T->Prop}(xi:B_ j W d t q)(xV:Li j){b:A5}{xQ xe:D}{xn:AK}{xY:Ab}{g:Au}{E:C N}(e:RV j d b xQ xe xn xY g E)(f:K):∃xt xg,W9 (pos 53) [.p j.x 0,.S (A5.c b),.n f] W=A (.n (F6 j.l d b f).2,xt)/\B_ j xt (F6 j.l d b f).1 xg q/\Bo q W xt/\∀r,r<d.Ac.l->xg r=t r:=by
 by_cases xP:d.AA=6000
 .let⟨o,xM,yB,yx,xI,yu,yD,yE⟩:=box W (.I 2 (A5.c b))
  have xJ:=xi.ext xI;have yr:=xJ;obtain⟨yG,yp,xX,rfl,yv⟩:=xJ;have yH:xM.Ap j.x 5=A (.n d.AA):=Ay xX.M 5;have x7:F6 j.l d b f=(d,5):=by unfold F6;grind
  refine⟨xM,yp.pc,AZ B B ?_,by grind,λa h=>xI.M (xi.C4 h),P⟩;rw[x7,Ml.1];simp only[QY, *]
 let⟨xb,o,xh,U,w,c⟩:=Aam xi e f xP
 have yz:(DO d b f).Ac.l=d.Ac.l:=Aed;have yn:=BB c.gq;have ym:xb.AL xh 0 4=A (Au.c g):=BB c.gn;have Z:∀a,q a->(q a\/a=o\/a=xh)\/¬As U a:=by grind
 let⟨k,xd⟩:=Bb (b:=E) (a:=0) e.Ld
 let⟨yf,xy,yl⟩:=c.o.rd xd
 have xy:AR 2 [U,.n 0]=A (.p yf 0):=xy;have xG:=J0 xd;have x6:(DO d b f).Ac[xQ]? =A {xn with AS:=xn.AS.set xe f}:=by unfold DO;rw[e.hi,e.hj];simp only[AdR,DK e.hc];exact Aex (AdN.1 e.hc).1
 rw[ZW e f xP];by_cases M:g.op=8\/g.op=9
 .rw[Af M];rw[A0 M]at w;let⟨⟨yh,x9,x8⟩,yA,yw⟩:=e.call M
  let⟨y,xg,xA,v,I,ys⟩:=rc c.H xV e.hi e.hj g k x6 (e:=yh) x9 x8 (by grind) (by grind)
  rw[xG];refine⟨y,xg,AZ B B ?_,v.sub Z,λa h=>(I a (Z a h)).t (c.T a h),P⟩;rw[w,Ml.2.2.2.1];simp only[QY, *]
 rw[Ad M];rw[A2 M]at w;by_cases V:g.op=11
 .rw[Af V];let⟨yq,m,xF,Y,X,xO,yd,ye,yc⟩:=e.st V
  rw[xd]at Y;cases Y;let⟨xz,S,xT⟩:=c.o.rd X
  let⟨yg,xR,yF⟩:=c.o.rd xO
  have S:AR 2 [U,.n 1]=A (.p xz 2):=S;have xR:AR 2 [U,.n 2]=A (.p yg 4):=xR;rw[xG,J0 X,J0 xO];have yt:Cb [(.i .u8 0),(.i .u8 0),(.n 0),(.i .u8 0),(.n 0),(.i .u8 0),(.n 0),(.n 0)] [(0,1),(1,2),(3,2),(5,2)] [(.i .u8 2),.S (N.c k),.S (N.c m),.S (N.c xF)]=A (.S (ED.c8 ⟨2,k,m,xF,0⟩)):=B;let⟨y,xA,v,I⟩:=gp c.H e.Fj ⟨2,k,m,xF,0⟩ P yd ye (λyo yb=>(yc yo yb).ON b f)
  refine⟨y,t,AZ B B ?_,v.sub Z,λa h=>(I a P).t (c.T a h),P⟩;rw[w,Ml.2.2.2.1];simp only[QY, *]
 rw[Ad V];by_cases J:g.op=5
 .rw[Af J];let⟨yq,m,Y,X,ya,yC,xc⟩:=e.sw J
  rw[xd]at Y;cases Y;let⟨xz,S,xT⟩:=c.o.rd X
  have S:AR 2 [U,.n 1]=A (.p xz 2):=S;rw[xG,J0 X];have x5:=rd k m ya;let⟨yk,xu,xx,xw,u,xs,xS,xf⟩:=box xb (.I 2 [.i .u8 0,.n 0])
  have xH:=Jp xb xx xw;let⟨z,xD,xC,x⟩:=Gy xs (FZ k m).2
  have xj:=c.H.V u;have xa:B_ j z (DO d b f) t (ES (λa=>(q a\/a=o\/a=xh)\/¬As U a) xb xu):=by rw[x];exact xj.VO P _
  obtain⟨r,yy⟩:∃r:D,(FZ k m).1=r:=⟨(FZ k m).1.n,by omega⟩;have xN:(FZ k m).1.n=r:=by omega
  rw[xN]at xc;let⟨x1,xZ,yj,x0,xE,xm,xv,x2,x3,x4,xo,xp,xq,R,xr,xk,xK⟩:=xa.AD (xc.ON b f) (FZ k m).2
  have xl:z.Ap o 1=A (.n xe):=by have:=c.H.C4 (c:=o) P;rw[Ay (f:=2) (c:=A5.c b) (by rw[x,AN,Ad P];exact(u.M this).t c.gq)];show A (F.n b.Ax)=_;rw[e.hj]
  have R:AR 2 [xE,.n (FZ k m).1]=A (.p xm (r*2)):=by grind
  rw[xN];refine⟨xv,t,AZ B B ?_,xk.sub P,λa h=>(xK a P).t ?_,λ_ _=>B⟩;.rw[w,Ml.2.2.2.1];simp only[↓xH,↓Q,↓QT,AdM,Int.reduceEq,J,↓H xy,↓H yl,↓H S,↓H xT,↓x5.H B,↓H xD,↓H xo,↓H xl,↓H xp,↓H xq,↓H xC,↓H R,↓H xr]
  .have xB:=c.H.C4 (Z a h);rw[x,AN,Ad (λd=>xf (by grind))];exact(u.M xB).t (c.T a h)
 rw[Ad J];let⟨xU,xc⟩:=e.aG M V J
 let⟨y,xA,v,I⟩:=re c.H c.ap e.Fj c.o (j:=b) (d:=g) xU
 let⟨yk,xu,xx,xw,u,xs,xS,xf⟩:=box y (.I 2 [.i .u8 0,.n 0])
 have xH:=Jp y xx xw;let⟨z,xD,xC,x⟩:=Gy xs (E7 (DO d b f) b g E).2.1
 have xj:=v.V u;have xa:B_ j z (E7 (DO d b f) b g E).1 t (ES (λa=>q a\/a=o\/a=xh) y xu):=by rw[x];exact xj.VO (.j ⟨xf,xS⟩) _
 have xW:∀a,q a->z.M a=W.M a:=λa h=>by have xB:=v.C4 (.i h);rw[x,AN,Ad (λd=>xf (by grind))];exact(u.M xB).t ((I a P).t (c.T a h))
 by_cases xL:(E7 (DO d b f) b g E).2.2=0
 .rw[Ad (by grind)];let⟨x1,xZ,yj,x0,xE,xm,xv,x2,x3,x4,xo,xp,xq,R,xr,xk,xK⟩:=xa.AD ((xc.ON b f).of (rT _ b g E)) (E7 (DO d b f) b g E).2.1
  have xl:z.Ap o 1=A (.n xe):=by have yi:=v.C4 (c:=o) P;rw[Ay (f:=2) (c:=A5.c b) (by rw[x,AN,Ad P];exact(u.M yi).t ((I o P).t c.gq))];show A (F.n b.Ax)=_;rw[e.hj]
  have R:AR 2 [xE,.n 0]=A (.p xm 0):=R;refine⟨xv,t,AZ B B ?_,xk.sub P,P,P⟩;rw[w,Ml.2.2.2.1];simp only[↓xH,↓Q,↓QT,AdM,V,J,Ml.2.2.1,↓H yn,↓H ym,↓H xA,↓H xD,xL,↓H xo,↓H xl,↓H xp,↓H xq,↓H xC,↓H R,↓H xr,Ml.2.2.2.2]
 .rw[Af xL];refine⟨z,t,AZ B B ?_,xa.sub P,xW,P⟩;rw[w,Ml.2.2.2.1];simp only[QY,Ml.2.2.1,Ml.2.2.2.2, *]
def P3(e:C Ab)(c:Ab)(a:AF)(f:D):Prop:=(a.Ax= -1/\0<=a.AD/\a.AD<c.An)\/∃(b:D)(d:Au),a.Ax=(b:K)/\b<f/\c.Av[b]? =A d/\0<=a.AD/\a.AD<C7 e d
structure H2(b:C Ab)(c:Ab)(e:D)(a:Au):Prop where
 A7:(a.A3.l:K)=Fy b a
 A3:∀d∈a.A3,P3 b c d e
 num:a.op=2->a.n=0\/a.n=1
 B6:a.op=1->-1000000000<=a.n/\a.n<=1000000000
structure kM(c:C Ab)(a:Ab):Prop where
 An:1<=a.An/\a.An<=12
 Av:a.Av.l<=400
 A_:a.A_.l<=12/\(a.A_.l=0\/(a.A_.l:K)=a.An)
 Bk:a.Bk.l<=12
 Ax:∀(d:D) e,a.Av[d]? =A e->H2 c a d e
 nx:∀b∈a.A_,P3 c a b a.Av.l
 ex:∀b∈a.Bk,P3 c a b a.Av.l
structure BD(c:C Ab):Prop where
 A7:c.l<=60
 Bc:∀(b:D) a,c[b]? =A a->kM c a
 XL:∀(b:D) a,c[b]? =A a->CH c a.A8=(b:K)
 K_:∃(b:D)(a:Ab),CH c GN=(b:K)/\c[b]? =A a/\a.A_.l=0
def u0{f:C _}{c:Ab}{b:AF}{g:D}(a:K0 f c b g=L):P3 f c b g:=by
 unfold K0 BK at a;split at a;.rename_i h;simp only[AdO,AdV]at a;exact .i ⟨h,by omega,by omega⟩
 .simp only[AdO,AdV]at a
  let⟨j,d⟩:=a
  cases e:c.Av[b.Ax.n]?with
  |none=>grind
  |some i=>rw[e]at d;simp only[AdO,AdV]at d;exact .j ⟨b.Ax.n,i,by omega,by omega,e,by omega,by omega⟩
def YL{d:C _}{b:Ab}{c:C _}(f:Gl d b c e=L):∀a∈c,P3 d b a e:=λa g=>u0 (Aei.1 f a g)
def ik{g:C _}{f:Ab}:∀{e:C _}{d:D},Nt g f e d=L->∀(a:D) b,e[a]? =A b->OC g f (d+a) b=L
 |[],_,_,a,b,h=>by grind
 |i::e,d,c,a,b,h=>by
  unfold Nt at c
  rw[AdO]at c
  cases a with
  |zero=>grind
  |succ a=>have:=ik c.2 a b (by grind);grind
def uG{f:C Ab}{d:Ab}{g:Au}(c:OC f d e g=L):H2 f d e g:=by
 unfold OC at c;simp only[AdO,AdV]at c;let⟨⟨h,a⟩,i⟩:=c
 unfold GX at a;split at a;.grind
 .refine⟨h.s,YL i,λb=> ?_,λb=> ?_⟩;.rw[Ad (by omega),Af b]at a;simp only[AeS,AdV]at a;grind
  .rw[Af b]at a;unfold BK at a;simp only[AdO,AdV]at a;grind
def jv:∀{e:C _}{c:K},0<=c->ND e c=L->∀a∈e,(a.Av.l:K)<=400/\a.An<=12/\a.A_.l<=12/\a.Bk.l<=12
 |[],_,_,_,a,b=>by grind
 |j::i,c,h,d,a,b=>by
  unfold ND PZ at d;simp only[AdO,Bool.not_eq_true',Bool.or_eq_false_iff,AfE]at d;let⟨g,f⟩:=d
  rcases Ad6.1 b with rfl|b;.grind
  .exact jv (by omega) f a b
def io{f:C _}:∀{e:C Ab}{d:D},Lc f e d=L->∀(a:D) b,e[a]? =A b->CH f b.A8=(d+a:D)
 |[],_,_,a,b,g=>by grind
 |h::e,d,c,a,b,g=>by
  unfold Lc at c
  rw[AdO,AdV]at c
  cases a with
  |zero=>grind
  |succ a=>have:=io c.2 a b (by grind);omega
def HU{a:C _}(c:D5 a=0):BD a:=by
 let⟨u,v,r,s,t⟩:=hW c
 unfold D5 at c;by_cases o:(60:K)<a.l;.grind
 rw[Ad o]at c;by_cases d:ND a 0=Aa;.grind
 rw[Ad d]at c;by_cases e:(a.all λb=>KA a b)=Aa;.grind
 rw[Ad e]at c;by_cases i:Lc a a 0=Aa;.grind
 have d:ND a 0=L:=by grind
 have e:(a.all λb=>KA a b)=L:=by grind
 have i:Lc a a 0=L:=by grind
 refine⟨by omega,λh b f=> ?_,λh b f=> ?_,⟨u,v,r,s,t⟩⟩
 .have j:=AdU f;let⟨F,x,y,z⟩:=jv Om d b j
  have g:=Aei.1 e b j;unfold KA at g;simp only[AdO,AeS,AdV]at g;let⟨⟨⟨_,k⟩,E⟩,l,m,n⟩:=g
  refine⟨⟨k,x⟩,by omega,⟨y,?_⟩,z,λq w p=> ?_,YL m,YL n⟩;.grind
  .have:=ik l q w p;rw[Ad2]at this;exact uG this
 .have:=io i h b f;omega
variable{a:Au}
def H2.call{b:C Ab}{h:Ab}{k:D}(g:H2 b h k a)(j:a.op=8\/a.op=9):∃(e:D)(c:Ab),CH b a.A8=e/\b[e]? =A c/\a.A3.l=c.An/\(0<c.A_.l↔a.op=9)/\C7 b a=c.Bk.l:=by
 have d:=g.A7
 unfold Fy at d
 rw[Ad (by omega),Ad (by omega),Ad (by omega),Ad (by omega),Af j]at d
 unfold J1 at d
 cases f:b[(CH b a.A8).n]?with
 |none=>grind
 |some c=>
  rw[f]at d;simp only[]at d;by_cases i:0<=CH b a.A8/\(Ao (0<c.A_.l)=Ao (a.op=9))
  .rw[Af i]at d;refine⟨(CH b a.A8).n,c,by omega,f,d,?_,?_⟩;.grind
   .unfold C7 Pc;grind
  grind
def H2.Ld{f:C _}{c:Ab}(b:H2 f c e a)(g:a.op=1\/a.op=2\/a.op=3\/a.op=10\/a.op=13\/a.op=14):a.A3.l=1:=by have d:=b.A7;unfold Fy at d;omega
def H2.M3{f:C _}{c:Ab}(b:H2 f c e a)(g:a.op=5\/a.op=6\/a.op=7\/a.op=12):a.A3.l=2:=by have d:=b.A7;unfold Fy at d;omega
def H2.kg{f:C _}{c:Ab}(b:H2 f c e a)(g:a.op=11):a.A3.l=3:=by have d:=b.A7;unfold Fy at d;omega
def H2.Rz{f:C _}{c:Ab}(b:H2 f c e a)(g:a.op=4):a.A3.l=Du a.A8/\0<Du a.A8:=by have d:=b.A7;unfold Fy at d;omega
def uW(a:BN):Du a<=2:=by unfold Du;omega
def H2.op{f:C _}{c:Ab}(b:H2 f c e a):1<=a.op/\a.op<=14:=by
 have d:=b.A7;by_cases g:1<=a.op/\a.op<=14;.grind
 .unfold Fy at d;omega
def H2.some{c:C _}(d:BD c){f:Ab}{m:D}(b:H2 c f m a):1<=a.A3.l/\a.A3.l<=12:=by
 let⟨n,o⟩:=b.op
 by_cases k:a.op=8\/a.op=9
 .let⟨e,g,_,l,p,_⟩:=b.call k
  have:=(d.Bc e g l).An;omega
 by_cases j:a.op=4;.have:=b.Rz j;have:=uW a.A8;omega
 by_cases h:a.op=11;.have:=b.kg h;omega
 by_cases i:a.op=5\/a.op=6\/a.op=7\/a.op=12;.have:=b.M3 i;omega
 .have:=b.Ld (by omega);omega
def Rs{a:C Ab}(c:BD a)(b:Au):0<=C7 a b/\C7 a b<=12:=by
 unfold C7;split;.omega
 .split
  .split
   .unfold Pc;split;.rename_i d e;have:=(c.Bc _ d e).Bk;omega
    omega
   omega
  omega
def YU{c:C _}(a:BD c){b:Ab}(f:c[e]? =A b):RT c b:=by have d:=a.Bc e b f;have:=a.A7;exact⟨by omega,by have:=d.An;omega,by have:=d.Av;omega,λg h=>by have:=Rs a g;omega⟩
def Zu(a b:Ah):HH 1 (.b a) (.b b)=A (a==b):=by cases a<;>cases b<;>rfl
def nN(a b:BA):FT Aa [0,1,1] [.S (BA.c a),.S (BA.c b)]=A (.b (Ao (a=b))):=by
 have:Gp [0,1,1] (BA.c a) (BA.c b)=A (Ao (a=b)):=by
  show JO (HH 0 (.n a.Az) (.n b.Az)) (JO (HH 1 (.b a.next) (.b b.next)) (JO (HH 1 (.b a.is) (.b b.is)) (A L)))=_;rw[Zv,Zu,Zu,T5,T5,T5];congr 1;let⟨c,d,e⟩:=a
  let⟨f,g,h⟩:=b
  by_cases i:c=f<;>cases d<;>cases g<;>cases e<;>cases h<;>simp[]
 rw[e3,this];rfl
def B_.NI{c:CI}{f:G}{n:D->T}{h:T->Prop}{e:T->Bm}{b:Lm}(q:EB e f c.l c.es c.k c.x d b)(u:b.pc=n)(s:∀i,h i->Lv f i/\e i=.C5){a:D}{r l:AK}{o:Bm}(t:d.Ac[a]? =A r)(m:o.of a)(j:EM e f g o)(p:C6 e g a (b.pc a) l (b.pv a) (b.ov a) (b.fv a) (b.gv a) (b.og a) (b.gg a)):B_ c g (d.AJ a l) n h/\Bo h f g:=
 have k:=j.Fp (by intro d;subst d;exact m) s
 ⟨⟨e,b,q.NI t m j p,u,k.1⟩,k.2⟩
def fX{y:CI}{j:G}{o:Ai}{r:D->T}{l:T->Prop}(h:B_ y j o r l){f:D}{b:AK}(k:o.Ac[e]? =A b)(Q:f<b.An.l)(a:N):∃p,W9 (pos 200) [.p (r e) 0,.n f,.S (N.c a)] j=A (.b (FG b f a).2,p)/\B_ y p (o.AJ e (FG b f a).1) r l/\Bo l j p:=by
 let⟨Z,E,V,U,g,I,X,Y⟩:=box j (.I 2 (N.c a))
 have v:=h.ext g;have w:=v;obtain⟨xc,xf,z,rfl,P⟩:=v;have u:=z.BC e b k;have xd:=BB I;have xa:=Ay u.M 4;let⟨s,R⟩:=Bb Q
 let⟨S,M,W,_,xb,xe,F,H⟩:=u.Yi R a
 have J:(b.An[f]?).g AO=s:=by grind
 have d:=MD a;have i:=MD s;unfold FG;rw[J];by_cases m:a.Ak=0;.rw[Af (.i m),NC k];rw[A0 m]at d;refine⟨E,AZ B B ?_,w,λq c=>g.M (h.C4 c)⟩;rw[Xs.1];simp only[QY,d.H B,QB, *]
 .rw[A2 m]at d;by_cases n:s.Ak=0;.rw[Ad (by grind)];rw[A0 n]at i;have x:=B_.NI z B P k (o:=.An e) B H F;refine⟨M,AZ B B ?_,x.1,λq c=>(x.2 q c).t (g.M (h.C4 c))⟩;rw[Xs.1];simp only[QY,d.H B,QB,i.H B,Xs.2, *]
  .rw[Af (.j n),NC k];rw[A2 n]at i;refine⟨E,AZ B B ?_,w,λq c=>g.M (h.C4 c)⟩;rw[Xs.1];simp only[QY,d.H B,QB,i.H B, *]
def pT{x:CI}{q:G}{o:Ai}{X:D->T}{w:T->Prop}(s:B_ x q o X w){g a d:D}{k f:AK}(U:o.Ac[g]? =A k)(e:k.AP=a)(xn:k.Ax=d)(i:o.Ac[a]? =A f){V:C BA}{W:C N}(xk:f.A4[d]? =A V)(xK:f.AG[d]? =A W)(xI:b<V.l)(xJ:b<W.l)(l:N)(c:BA):∃S,W9 (pos 201) [.p x.x 0,.p (X g) 0,.n b,.S (N.c l),.S (BA.c c)] q=A (.AB [.b (CZ f d b l c).2.1,.n (CZ f d b l c).2.2],S)/\B_ x S (o.AJ a (CZ f d b l c).1) X w/\Bo w q S:=by
 let⟨Y,E,xL,xG,xs,xA,xR,yb⟩:=box q (.I 2 (N.c l))
 let⟨xo,h,xM,xH,xc,xB,ya,yc⟩:=box E (.I 3 (BA.c c))
 have x0:=Ko q l xL xG;have x1:∀(xe:F->G->R),bl (.p E.next 0) (E.V (.I (Bq (F.I (.S (BA.c c)))) (F.I (.S (BA.c c))))) xe=xe (.p xo 0) h:=Dy E (.I 3 (BA.c c)) xM xH;have r:=xs.AI xc;have xd:=s.ext r;have xu:=s.V r;obtain⟨xW,n,u,rfl,xD⟩:=xu;have xt:ES w q h Y:=by grind
 have xb:=u.BC g k U;have Z:=u.BC a f i;let⟨x6,xQ,xX⟩:=u.Lf i
 have xZ:h.Ap x.x 2=A n.cv:=Ay u.M 2;have xw:h.Ap (n.pc g) 1=A (.n a):=by rw[Ay xb.M];show A (F.n k.AP)=_;rw[e]
 have xx:h.Ap (n.pc g) 2=A (.n d):=by rw[Ay xb.M];show A (F.n k.Ax)=_;rw[xn]
 have xv:h.Ap (n.pc a) 8=A (n.gv a):=Ay Z.M 8;let⟨p,xl⟩:=Bb xI
 let⟨x3,y,xj,xO,xT,xP,xU,xp,yh,xq,xf⟩:=Z.w8 xk xl c
 have xV:h.AL xo 0 3=A (BA.c c):=BB xB;have P:=nN p c;have xY:Ek f d b=p:=by unfold Ek;rw[xk];show(V[b]?).g EQ=p;rw[xl];rfl
 unfold CZ;rw[xY];by_cases z:p=c;.rw[Af z,NC i];rw[A0 z]at P;refine⟨h,AZ B B ?_,xd,λa e=>r.M (s.C4 e)⟩;rw[r201];simp only[↓x0,↓x1,↓Q,↓H xZ,↓H xw,↓H xQ,↓H xX,↓H xv,↓H xx,↓H xO,↓H xT,↓H xP,↓H xU,↓H xV,↓H P]
 .rw[Ad z];rw[A2 z]at P;by_cases M:p.is=L
  .rw[Af M,NC i];have xz:Bl 2 [.p y (b*3)]=A (.p y (b*3+2)):=by rw[EG]
   rw[M]at xp;refine⟨h,AZ B B ?_,xd,λa e=>r.M (s.C4 e)⟩;rw[r201];simp only[QY, *]
  .rw[Ad M];have xy:p.is=Aa:=by grind
   have xz:Bl 2 [.p y (b*3)]=A (.p y (b*3+2)):=by rw[EG]
   rw[xy]at xp;have J:=u.NI i (t:=.B1 a d) B xf xq;have I:=xf.Fp (by grind) xD;have xa:=J.BC a _ (Jf i);have x2:=xa.M;let⟨yi,xN⟩:=Bb xJ
   let⟨x4,x5,xC,x8,yd,x9,ye,yg,xr,xg⟩:=xa.PP (v:=W) (a:=d) (b:=b) xK xN l
   have xi:=J.NI (Jf i) (t:=.AD a d) B xg xr;rw[LX]at xi;have xh:=xg.Fp (by grind) I.1;obtain⟨v,xE,xF⟩:∃v,(o.AJ a {f with A4:=CP f.A4 d b c}).Ac[g]? =A v/\v.Ax=k.Ax:=by
    by_cases xm:g=a;.subst xm;rw[U]at i;cases i;exact⟨_,Jf U,B⟩
    .exact⟨k,by show(o.Ac.set _ _)[g]? =_;rw[AeJ (λxS=>xm xS.s)];grind,B⟩
   have x7:xj.Ap (n.pc g) 2=A (.n d):=by rw[Ay (J.BC g v xE).M];show A (F.n v.Ax)=_;rw[xF,xn]
   have yf:xj.AL Y 0 2=A (N.c l):=BB ((I.2 Y xt).t ((xc.M xR).t xA));refine⟨xC,AZ B B ?_,⟨xW,n,xi,B,λa e=>xh.1 a (.i e)⟩,λa e=>(xh.2 a (.i e)).t ((I.2 a (.i e)).t (r.M (s.C4 e)))⟩;rw[r201];simp only[QY,vy, *]
